-- WRITTEN by pp.py, this session's own wrapper around the print; not trusted: Lean checks it
import Derived.Test.YtfibjclnaeocbaaPFnPairsx0
import Derived.Test.YtfibjclnaeocbaaPFnPairsx7
import Derived.Test.YtfibjclnaeocbaaPFnPairsx8
import Derived.Test.YtfibjclnaeocbaaPFnPairsx9
namespace Go.Proofs.Ytfibjclnaeocbaa.PFnPairs
open Go.RowKit Go.Proofs.Ytfibjclnaeocbaa.Hw Go.Proofs.YtfibjclnaeocbaaW.PrintWords Go.Proofs.YtfibjclnaeocbaaW.PrintLast Go.Proofs.YtfibjclnaeocbaaW.PrintMore
attribute [local go_sem] max2_int min2_int max_two min_two max_three min_three max_four min_four   -- for this text's walks alone
set_option linter.unusedVariables false
set_option linter.unusedSimpArgs false
set_option linter.unusedSectionVars false

/-! ### impl_TroubleAt: function 13 -/
def impl_TroubleAt.j0 : Nat → Int → Int → Bool → Int → List Bool → List (S46) → Int → List Bool → List (S46) → Option (Int)
 | 0, _, _, _, _, _, _, _, _, _ => none
 | k + 1, x2, x3, x9, x442000, x442001, x442002, x443000, x443001, x443002 => if x9 = true then (some 1) else ((impl_NextPairs.f k x442000 x442001 x442002 x443000 x443001 x443002 x2 x3).bind fun t461 => (if (t461.length : Int) = 0 then ((impl_isEnd.f x442000 x442001 x442002 x2).bind fun t464 => (if t464 = true then ((impl_isEnd.f x443000 x443001 x443002 x3).bind fun t465 => (if t465 = true then (some 0) else (some 2))) else (some 2))) else (some 0)))
def impl_TroubleAt.f (k : Nat) (a0_0 : Int) (l0_1 : List Bool) (l0_2 : List (S46)) (a1_0 : Int) (l1_1 : List Bool) (l1_2 : List (S46)) (a2 : Int) (a3 : Int) : Option (Int) := (impl_MovesFrom.f k a0_0 l0_1 l0_2 a2 true).bind fun t443 => ((impl_MovesFrom.f k a1_0 l1_1 l1_2 a3 false).bind fun t446 => ((impl_without.f k t443 t446).bind fun t449 => (if (t449.length : Int) > 0 then (impl_TroubleAt.j0 k a2 a3 true a0_0 l0_1 l0_2 a1_0 l1_1 l1_2) else ((impl_MovesFrom.f k a1_0 l1_1 l1_2 a3 true).bind fun t452 => ((impl_MovesFrom.f k a0_0 l0_1 l0_2 a2 false).bind fun t455 => ((impl_without.f k t452 t455).bind fun t458 => (impl_TroubleAt.j0 k a2 a3 (decide ((t458.length : Int) > 0)) a0_0 l0_1 l0_2 a1_0 l1_1 l1_2)))))))
theorem impl_TroubleAt.mono_l : ∀ k, (∀ y0 y1 y2 y3 y4 y5 y6 y7 y8, LeO (impl_TroubleAt.j0 k y0 y1 y2 y3 y4 y5 y6 y7 y8) (impl_TroubleAt.j0 (k + 1) y0 y1 y2 y3 y4 y5 y6 y7 y8))
 | 0 => fun _ _ _ _ _ _ _ _ _ r h => by simp [impl_TroubleAt.j0] at h
 | k + 1 => by
  have ih0 := impl_TroubleAt.mono_l k
  ·intro y0 y1 y2 y3 y4 y5 y6 y7 y8
   unfold impl_TroubleAt.j0
   repeat' first
   | (with_reducible first | exact ih0 _ _ _ _ _ _ _ _ _ | exact impl_MovesFrom.mono _ _ _ _ _ _ | exact impl_NextPairs.mono _ _ _ _ _ _ _ _ _ | exact impl_without.mono _ _ _ | exact LeO.refl _ | exact LeO.none _ | refine LeO.ite ?_ ?_ | refine LeO.bind ?_ (fun _ => ?_))
   | exact ih0 _ _ _ _ _ _ _ _ _
   | exact impl_MovesFrom.mono _ _ _ _ _ _
   | exact impl_NextPairs.mono _ _ _ _ _ _ _ _ _
   | exact impl_without.mono _ _ _
   | exact LeO.none _
   | refine LeO.ite ?_ ?_
   | refine LeO.bind ?_ (fun _ => ?_)
theorem impl_TroubleAt.mono : ∀ a0 a1 a2 a3 a4 a5 a6 a7 k, LeO (impl_TroubleAt.f k a0 a1 a2 a3 a4 a5 a6 a7) (impl_TroubleAt.f (k + 1) a0 a1 a2 a3 a4 a5 a6 a7) := by
 intro a0 a1 a2 a3 a4 a5 a6 a7 k
 have ih0 := impl_TroubleAt.mono_l k
 unfold impl_TroubleAt.f
 repeat' first
   | (with_reducible first | exact ih0 _ _ _ _ _ _ _ _ _ | exact impl_MovesFrom.mono _ _ _ _ _ _ | exact impl_NextPairs.mono _ _ _ _ _ _ _ _ _ | exact impl_without.mono _ _ _ | exact LeO.refl _ | exact LeO.none _ | refine LeO.ite ?_ ?_ | refine LeO.bind ?_ (fun _ => ?_))
   | exact ih0 _ _ _ _ _ _ _ _ _
   | exact impl_MovesFrom.mono _ _ _ _ _ _
   | exact impl_NextPairs.mono _ _ _ _ _ _ _ _ _
   | exact impl_without.mono _ _ _
   | exact LeO.none _
   | refine LeO.ite ?_ ?_
   | refine LeO.bind ?_ (fun _ => ?_)
def impl_TroubleAt.T1 : Bool × List (List Nat × List Nat) := (true, [([], []), ([], []), ([0, 1], [0, 1]), ([], []), ([], []), ([3, 4, 2], [3, 4]), ([2, 5, 5], [2, 5]), ([6], [6]), ([7], [7]), ([8, 6], [8]), ([9], [9]), ([9], [9]), ([10, 11, 9, 9], [9, 10, 11]), ([9], [9]), ([9], [9]), ([13, 14, 12, 9], [9, 13, 14]), ([12, 15, 15, 9], [9, 12, 15]), ([16, 9], [9, 16]), ([17, 9], [9, 17]), ([9, 18], [9, 18]), ([19, 16], [19])])
def impl_TroubleAt.B1 : List Nat := [0, 0, 3, 0, 0, 31, 63, 127, 255, 511, 1023, 1023, 4095, 1023, 1023, 32767, 65535, 131071, 262143, 524287, 1048575]
theorem impl_TroubleAt.tab1 : rtab .any (opsOf Try.f13 1) = impl_TroubleAt.T1 := by kernel_rfl
theorem impl_TroubleAt.bits1 : waitsOk impl_TroubleAt.T1.2 impl_TroubleAt.B1 = true := by kernel_rfl
set_option maxHeartbeats 8000000 in
set_option maxRecDepth 100000 in
theorem impl_TroubleAt.calls (k : Nat) (a0_0 : Int) (A0_1 : Option Addr) (c0_1 : Nat) (l0_1 : List Bool) (A0_2 : Option Addr) (c0_2 : Nat) (l0_2 : List (S46)) (a1_0 : Int) (A1_1 : Option Addr) (c1_1 : Nat) (l1_1 : List Bool) (A1_2 : Option Addr) (c1_2 : Nat) (l1_2 : List (S46)) (a2 : Int) (a3 : Int) (r : Int) (w : World) (hr0_1 : Kd.C Kd.bool w A0_1 l0_1.length l0_1) (hc0_1 : l0_1.length ≤ c0_1) (hr0_2 : Kd.C k46 w A0_2 l0_2.length l0_2) (hc0_2 : l0_2.length ≤ c0_2) (hr1_1 : Kd.C Kd.bool w A1_1 l1_1.length l1_1) (hc1_1 : l1_1.length ≤ c1_1) (hr1_2 : Kd.C k46 w A1_2 l1_2.length l1_2) (hc1_2 : l1_2.length ≤ c1_2) (h : impl_TroubleAt.f k a0_0 l0_1 l0_2 a1_0 l1_1 l1_2 a2 a3 = some r) :
  Calls Try.prog 13 #[.agg #[.int .i64 a0_0, .slice A0_1 l0_1.length c0_1, .slice A0_2 l0_2.length c0_2], .agg #[.int .i64 a1_0, .slice A1_1 l1_1.length c1_1, .slice A1_2 l1_2.length c1_2], .int .i64 a2, .int .i64 a3] w fun e w' => e = .returned (.int .i64 r) ∧ Below w.heap.size w w' := by
 have hu27 := Try.underlying27
 have HR0_1 := aM hr0_1
 have HC0_1 := aM hc0_1
 clear hr0_1 hc0_1
 have HR0_2 := aM hr0_2
 have HC0_2 := aM hc0_2
 clear hr0_2 hc0_2
 have HR1_1 := aM hr1_1
 have HC1_1 := aM hc1_1
 clear hr1_1 hc1_1
 have HR1_2 := aM hr1_2
 have HC1_2 := aM hc1_2
 clear hr1_2 hc1_2
 have HB := aM (Below.refl w.heap.size w)
 have H : ((impl_MovesFrom.f k a0_0 l0_1 l0_2 a2 true).bind fun t443 => ((impl_MovesFrom.f k a1_0 l1_1 l1_2 a3 false).bind fun t446 => ((impl_without.f k t443 t446).bind fun t449 => (if (t449.length : Int) > 0 then (impl_TroubleAt.j0 k a2 a3 true a0_0 l0_1 l0_2 a1_0 l1_1 l1_2) else ((impl_MovesFrom.f k a1_0 l1_1 l1_2 a3 true).bind fun t452 => ((impl_MovesFrom.f k a0_0 l0_1 l0_2 a2 false).bind fun t455 => ((impl_without.f k t452 t455).bind fun t458 => (impl_TroubleAt.j0 k a2 a3 (decide ((t458.length : Int) > 0)) a0_0 l0_1 l0_2 a1_0 l1_1 l1_2)))))))) = some r := h
 clear h
 have HC5 := aM H
 clear H
 go_enter Try.func13, Try.ntmps13
 go_upto_region 1 with (first | ((with_reducible refine gD (N := 4) rfl ?_); (try (refine gate_guard (by rfl) ?_; dsimp only)); refine box_event ?hg (N := 4) ?hd (cs := #[.int .i64 a0_0, .slice A0_1 l0_1.length c0_1, .slice A0_2 l0_2.length c0_2]) (t := 27) ?hr ?_; (case hd => rfl); (case hg => rfl); (case hr => first | (go_simp; done) | (go_simp; rfl)); intro gb441 hg w6 hbox hb; have BK441 := aM (hbox); have GW441 := gS HB hg; have GE441 := gS HB hg; replace HB := bS HB hb; clear hb hbox hg) | ((with_reducible refine gD (N := 5) rfl ?_); (try (refine gate_guard (by rfl) ?_; dsimp only)); refine box_event ?hg (N := 5) ?hd (cs := #[.int .i64 a1_0, .slice A1_1 l1_1.length c1_1, .slice A1_2 l1_2.length c1_2]) (t := 27) ?hr ?_; (case hd => rfl); (case hg => rfl); (case hr => first | (go_simp; done) | (go_simp; rfl)); intro gb442 hg w7 hbox hb; have BK442 := aM (hbox); have GW442 := gS HB hg; have GE442 := gS HB hg; replace HB := bS HB hb; have NB441_442 := nL BK441 hg; have NB442_441 := nR BK441 hg; replace BK441 := kB BK441 hb; clear hb hbox hg))
 (try simp only [Act.put, lA, lB, lC])
 go_cut [9] (fun v9 wc => ∃ (kq : Nat) (x9_4 : Bool), v9 = .bool x9_4 ∧ Aside0 (impl_TroubleAt.j0 kq a2 a3 x9_4 a0_0 l0_1 l0_2 a1_0 l1_1 l1_2 = some r) ∧ Aside0 (kq ≤ k) ∧ Aside0 (wc.heap[gb441]? = some (.cells #[.int .i64 a0_0, (.slice A0_1 l0_1.length c0_1), (.slice A0_2 l0_2.length c0_2)] 27 (0, 0))) ∧ Aside0 (wc.heap[gb442]? = some (.cells #[.int .i64 a1_0, (.slice A1_1 l1_1.length c1_1), (.slice A1_2 l1_2.length c1_2)] 27 (0, 0))) ∧ Aside0 (Below w.heap.size w wc))
 case first =>
  have H := HC5.o
  clear HC5
  obtain ⟨t443, A8, H⟩ := bindS H
  obtain ⟨t446, A9, H⟩ := bindS H
  obtain ⟨t449, A10, H⟩ := bindS H
  by_cases c11 : (t449.length : Int) > 0
  ·rw [if_pos c11] at H
   have c11b0 : decide (0 < (t449.length : Int)) = true := dT c11
   have c11b1 : decide (0 < t449.length) = true := dT (by omega)
   clear c11
   (first | rw [c11b0] | (simp only [i64_w, i32_w]; rw [c11b0]) | skip)
   have H' := aM H
   clear H
   try go_wp2
   replace BK441 := aM (bD BK441.o)
   replace BK442 := aM (bD BK442.o)
   replace HB := aM (below_drew1 HB.o)
   refine start_ (n := 21) (S := fun w' => w'.cell? ⟨gb441, 0, none⟩ = some (.int .i64 a0_0) ∧ w'.cell? ⟨gb441, 1, none⟩ = some (.slice A0_1 l0_1.length c0_1) ∧ w'.cell? ⟨gb441, 2, none⟩ = some (.slice A0_2 l0_2.length c0_2) ∧ w'.cell? ⟨gb442, 0, none⟩ = some (.int .i64 a1_0) ∧ w'.cell? ⟨gb442, 1, none⟩ = some (.slice A1_1 l1_1.length c1_1) ∧ w'.cell? ⟨gb442, 2, none⟩ = some (.slice A1_2 l1_2.length c1_2)) (ds := []) (bm 21 0) (by kernel_rfl) rfl (bm0 _) ⟨bc0 BK441, bc1 BK441, bc2 BK441, bc0 BK442, bc1 BK442, bc2 BK442⟩ (fun hK4 => ?_); refine with_tabW impl_TroubleAt.tab1 impl_TroubleAt.bits1 (fun HT_ HW_ => ?_)
   generalize w7.drew = w12 at BK441 BK442 HB hK4 ⊢
   refine pW 1 11 21 2 HT_ rfl rfl ?_
   refine pW 4 14 21 18 HT_ rfl rfl ?_
   refine tW 0 10 21 19 HT_ HW_ rfl rfl hK4 ?_
   refine tW 3 13 21 27 HT_ HW_ rfl rfl hK4 ?_
   refine one_ (i := 2) (N := some 12) (bm 21 31) rfl rfl (one_of HT_.o (by kernel_rfl)) (by decide) (fun K hK => ?_)
   refine goes_ Try.func27 (by kernel_rfl) rfl #[.agg #[.int .i64 a0_0, .slice A0_1 l0_1.length c0_1, .slice A0_2 l0_2.length c0_2], .int .i64 a2, .bool true] (by rfl) rfl rfl zG ?_
   with_reducible refine (impl_MovesFrom.calls k a0_0 _ _ l0_1 _ _ l0_2 a2 true t443 _ ?s1 ?s2 ?s3 ?s4 A8.o).mono ?_
   (case s1 => exact cS HR0_1 HB)
   (case s2 => exact HC0_1.o)
   (case s3 => exact cS HR0_2 HB)
   (case s4 => exact HC0_2.o)
   rintro e w13 ⟨v444, rfl, ho0, hb⟩
   refine ⟨_, rfl, ?_⟩
   have HO445 := aM (rO ho0 (bZ (zB HB)))
   replace BK441 := kB BK441 hb
   replace BK442 := kB BK442 hb
   replace HB := bS HB hb
   (try clear hb); (try clear hb2); (try clear hk); (try clear hi); (try clear ho0)
   refine hK.out _ _ ⟨bc0 BK441, bc1 BK441, bc2 BK441, bc0 BK442, bc1 BK442, bc2 BK442⟩ (fun hK4 => ?_)
   clear hK K
   refine nU 12 ?_
   refine one_ (i := 5) (N := some 15) (bm 21 63) rfl rfl (one_of HT_.o (by kernel_rfl)) (by decide) (fun K hK => ?_)
   refine goes_ Try.func27 (by kernel_rfl) rfl #[.agg #[.int .i64 a1_0, .slice A1_1 l1_1.length c1_1, .slice A1_2 l1_2.length c1_2], .int .i64 a3, .bool false] (by rfl) rfl rfl zG ?_
   with_reducible refine (impl_MovesFrom.calls k a1_0 _ _ l1_1 _ _ l1_2 a3 false t446 _ ?s1 ?s2 ?s3 ?s4 A9.o).mono ?_
   (case s1 => exact cS HR1_1 HB)
   (case s2 => exact HC1_1.o)
   (case s3 => exact cS HR1_2 HB)
   (case s4 => exact HC1_2.o)
   rintro e w14 ⟨v447, rfl, ho0, hb⟩
   refine ⟨_, rfl, ?_⟩
   have HO448 := aM (rO (Kd.R_new' ho0 (Kd.R_lt (zR HO445))) (bZ (zB HB)))
   replace HO445 := aM (Kd.R_elder' (zR HO445) (Kd.R_base ho0) hb)
   replace BK441 := kB BK441 hb
   replace BK442 := kB BK442 hb
   replace HB := bS HB hb
   (try clear hb); (try clear hb2); (try clear hk); (try clear hi); (try clear ho0)
   obtain ⟨Ao15, co15, eo15⟩ := rL HO445.o
   (first | subst eo15 | (obtain ⟨f4_, f5_⟩ := slI eo15; subst f4_; subst f5_))
   obtain ⟨Ao16, co16, eo16⟩ := rL HO448.o
   (first | subst eo16 | (obtain ⟨f4_, f5_⟩ := slI eo16; subst f4_; subst f5_))
   refine hK.out _ _ ⟨bc0 BK441, bc1 BK441, bc2 BK441, bc0 BK442, bc1 BK442, bc2 BK442⟩ (fun hK4 => ?_)
   clear hK K
   refine nU 15 ?_
   refine one_ (i := 6) (N := some 16) (bm 21 127) rfl rfl (one_of HT_.o (by kernel_rfl)) (by decide) (fun K hK => ?_)
   refine goes_ Try.func26 (by kernel_rfl) rfl #[.slice Ao15 t443.length co15, .slice Ao16 t446.length co16] (by rfl) rfl rfl zG ?_
   with_reducible refine (impl_without.calls k _ _ t443 _ _ t446 t449 _ ?s1 ?s2 ?s3 ?s4 A10.o).mono ?_
   (case s1 => exact cU (rQ HO445.o).2.2)
   (case s2 => exact (rQ HO445.o).2.1)
   (case s3 => exact cU (rQ HO448.o).2.2)
   (case s4 => exact (rQ HO448.o).2.1)
   rintro e w17 ⟨v450, rfl, ho0, hb⟩
   refine ⟨_, rfl, ?_⟩
   have HO451 := aM (rO (Kd.R_new' (Kd.R_new' ho0 (Kd.R_lt (zR HO445))) (Kd.R_lt (zR HO448))) (bZ (zB HB)))
   replace HO445 := aM (Kd.R_elder' (zR HO445) (Kd.R_base ho0) hb)
   replace HO448 := aM (Kd.R_elder' (zR HO448) (Kd.R_base ho0) hb)
   replace BK441 := kB BK441 hb
   replace BK442 := kB BK442 hb
   replace HB := bS HB hb
   (try clear hb); (try clear hb2); (try clear hk); (try clear hi); (try clear ho0)
   obtain ⟨Ao18, co18, eo18⟩ := rL HO451.o
   (first | subst eo18 | (obtain ⟨f4_, f5_⟩ := slI eo18; subst f4_; subst f5_))
   refine hK.out _ _ ⟨bc0 BK441, bc1 BK441, bc2 BK441, bc0 BK442, bc1 BK442, bc2 BK442⟩ (fun hK4 => ?_)
   clear hK K
   refine nU 16 ?_
   refine pW 7 17 21 255 HT_ rfl rfl ?_
   refine pW 8 18 21 511 HT_ rfl rfl ?_
   refine pW 9 19 21 1023 HT_ rfl rfl ?_
   refine pV 10 (some 20) (bm 21 2047) HT_ rfl rfl ?_
   refine pV 11 (some 21) (bm 21 4095) HT_ rfl rfl ?_
   refine pV 12 (some 22) (bm 21 8191) HT_ rfl rfl ?_
   refine pV 13 (some 23) (bm 21 16383) HT_ rfl rfl ?_
   refine pV 14 (some 24) (bm 21 32767) HT_ rfl rfl ?_
   refine pV 15 (some 25) (bm 21 65535) HT_ rfl rfl ?_
   refine pV 16 (some 26) (bm 21 131071) HT_ rfl rfl ?_
   refine pV 17 (some 27) (bm 21 262143) HT_ rfl rfl ?_
   refine pV 18 (some 28) (bm 21 524287) HT_ rfl rfl ?_
   refine pW 19 29 21 1048575 HT_ rfl rfl ?_
   refine pW 20 9 21 2097151 HT_ rfl rfl ?_
   refine done_ (done_of HT_.o (by kernel_rfl)) ?_
   try clear hK4
   try go_wp2
   go_meet
   case rel => exact ⟨_, (true), zF, H', ⟨by first | omega | exact Nat.le_refl _⟩, ⟨zK BK441⟩, ⟨zK BK442⟩, ⟨zB HB⟩⟩
  ·rw [if_neg c11] at H
   have c11b0 : decide (0 < (t449.length : Int)) = false := decide_eq_false c11
   have c11b1 : decide (0 < t449.length) = false := decide_eq_false (by omega)
   clear c11
   (first | rw [c11b0] | (simp only [i64_w, i32_w]; rw [c11b0]) | skip)
   obtain ⟨t452, A19, H⟩ := bindS H
   obtain ⟨t455, A20, H⟩ := bindS H
   obtain ⟨t458, A21, H⟩ := bindS H
   have H' := aM H
   clear H
   try go_wp2
   replace BK441 := aM (bD BK441.o)
   replace BK442 := aM (bD BK442.o)
   replace HB := aM (below_drew1 HB.o)
   refine start_ (n := 21) (S := fun w' => w'.cell? ⟨gb441, 0, none⟩ = some (.int .i64 a0_0) ∧ w'.cell? ⟨gb441, 1, none⟩ = some (.slice A0_1 l0_1.length c0_1) ∧ w'.cell? ⟨gb441, 2, none⟩ = some (.slice A0_2 l0_2.length c0_2) ∧ w'.cell? ⟨gb442, 0, none⟩ = some (.int .i64 a1_0) ∧ w'.cell? ⟨gb442, 1, none⟩ = some (.slice A1_1 l1_1.length c1_1) ∧ w'.cell? ⟨gb442, 2, none⟩ = some (.slice A1_2 l1_2.length c1_2)) (ds := []) (bm 21 0) (by kernel_rfl) rfl (bm0 _) ⟨bc0 BK441, bc1 BK441, bc2 BK441, bc0 BK442, bc1 BK442, bc2 BK442⟩ (fun hK4 => ?_); refine with_tabW impl_TroubleAt.tab1 impl_TroubleAt.bits1 (fun HT_ HW_ => ?_)
   generalize w7.drew = w22 at BK441 BK442 HB hK4 ⊢
   refine pW 1 11 21 2 HT_ rfl rfl ?_
   refine pW 4 14 21 18 HT_ rfl rfl ?_
   refine tW 0 10 21 19 HT_ HW_ rfl rfl hK4 ?_
   refine tW 3 13 21 27 HT_ HW_ rfl rfl hK4 ?_
   refine one_ (i := 2) (N := some 12) (bm 21 31) rfl rfl (one_of HT_.o (by kernel_rfl)) (by decide) (fun K hK => ?_)
   refine goes_ Try.func27 (by kernel_rfl) rfl #[.agg #[.int .i64 a0_0, .slice A0_1 l0_1.length c0_1, .slice A0_2 l0_2.length c0_2], .int .i64 a2, .bool true] (by rfl) rfl rfl zG ?_
   with_reducible refine (impl_MovesFrom.calls k a0_0 _ _ l0_1 _ _ l0_2 a2 true t443 _ ?s1 ?s2 ?s3 ?s4 A8.o).mono ?_
   (case s1 => exact cS HR0_1 HB)
   (case s2 => exact HC0_1.o)
   (case s3 => exact cS HR0_2 HB)
   (case s4 => exact HC0_2.o)
   rintro e w23 ⟨v444, rfl, ho0, hb⟩
   refine ⟨_, rfl, ?_⟩
   have HO445 := aM (rO ho0 (bZ (zB HB)))
   replace BK441 := kB BK441 hb
   replace BK442 := kB BK442 hb
   replace HB := bS HB hb
   (try clear hb); (try clear hb2); (try clear hk); (try clear hi); (try clear ho0)
   refine hK.out _ _ ⟨bc0 BK441, bc1 BK441, bc2 BK441, bc0 BK442, bc1 BK442, bc2 BK442⟩ (fun hK4 => ?_)
   clear hK K
   refine nU 12 ?_
   refine one_ (i := 5) (N := some 15) (bm 21 63) rfl rfl (one_of HT_.o (by kernel_rfl)) (by decide) (fun K hK => ?_)
   refine goes_ Try.func27 (by kernel_rfl) rfl #[.agg #[.int .i64 a1_0, .slice A1_1 l1_1.length c1_1, .slice A1_2 l1_2.length c1_2], .int .i64 a3, .bool false] (by rfl) rfl rfl zG ?_
   with_reducible refine (impl_MovesFrom.calls k a1_0 _ _ l1_1 _ _ l1_2 a3 false t446 _ ?s1 ?s2 ?s3 ?s4 A9.o).mono ?_
   (case s1 => exact cS HR1_1 HB)
   (case s2 => exact HC1_1.o)
   (case s3 => exact cS HR1_2 HB)
   (case s4 => exact HC1_2.o)
   rintro e w24 ⟨v447, rfl, ho0, hb⟩
   refine ⟨_, rfl, ?_⟩
   have HO448 := aM (rO (Kd.R_new' ho0 (Kd.R_lt (zR HO445))) (bZ (zB HB)))
   replace HO445 := aM (Kd.R_elder' (zR HO445) (Kd.R_base ho0) hb)
   replace BK441 := kB BK441 hb
   replace BK442 := kB BK442 hb
   replace HB := bS HB hb
   (try clear hb); (try clear hb2); (try clear hk); (try clear hi); (try clear ho0)
   obtain ⟨Ao25, co25, eo25⟩ := rL HO445.o
   (first | subst eo25 | (obtain ⟨f4_, f5_⟩ := slI eo25; subst f4_; subst f5_))
   obtain ⟨Ao26, co26, eo26⟩ := rL HO448.o
   (first | subst eo26 | (obtain ⟨f4_, f5_⟩ := slI eo26; subst f4_; subst f5_))
   refine hK.out _ _ ⟨bc0 BK441, bc1 BK441, bc2 BK441, bc0 BK442, bc1 BK442, bc2 BK442⟩ (fun hK4 => ?_)
   clear hK K
   refine nU 15 ?_
   refine one_ (i := 6) (N := some 16) (bm 21 127) rfl rfl (one_of HT_.o (by kernel_rfl)) (by decide) (fun K hK => ?_)
   refine goes_ Try.func26 (by kernel_rfl) rfl #[.slice Ao25 t443.length co25, .slice Ao26 t446.length co26] (by rfl) rfl rfl zG ?_
   with_reducible refine (impl_without.calls k _ _ t443 _ _ t446 t449 _ ?s1 ?s2 ?s3 ?s4 A10.o).mono ?_
   (case s1 => exact cU (rQ HO445.o).2.2)
   (case s2 => exact (rQ HO445.o).2.1)
   (case s3 => exact cU (rQ HO448.o).2.2)
   (case s4 => exact (rQ HO448.o).2.1)
   rintro e w27 ⟨v450, rfl, ho0, hb⟩
   refine ⟨_, rfl, ?_⟩
   have HO451 := aM (rO (Kd.R_new' (Kd.R_new' ho0 (Kd.R_lt (zR HO445))) (Kd.R_lt (zR HO448))) (bZ (zB HB)))
   replace HO445 := aM (Kd.R_elder' (zR HO445) (Kd.R_base ho0) hb)
   replace HO448 := aM (Kd.R_elder' (zR HO448) (Kd.R_base ho0) hb)
   replace BK441 := kB BK441 hb
   replace BK442 := kB BK442 hb
   replace HB := bS HB hb
   (try clear hb); (try clear hb2); (try clear hk); (try clear hi); (try clear ho0)
   obtain ⟨Ao28, co28, eo28⟩ := rL HO451.o
   (first | subst eo28 | (obtain ⟨f4_, f5_⟩ := slI eo28; subst f4_; subst f5_))
   refine hK.out _ _ ⟨bc0 BK441, bc1 BK441, bc2 BK441, bc0 BK442, bc1 BK442, bc2 BK442⟩ (fun hK4 => ?_)
   clear hK K
   refine nU 16 ?_
   refine pW 7 17 21 255 HT_ rfl rfl ?_
   refine pW 8 18 21 511 HT_ rfl rfl ?_
   refine pW 9 19 21 1023 HT_ rfl rfl ?_
   refine pW 11 21 21 3071 HT_ rfl rfl ?_
   refine pW 14 24 21 19455 HT_ rfl rfl ?_
   refine tW 10 20 21 20479 HT_ HW_ rfl rfl hK4 ?_
   refine tW 13 23 21 28671 HT_ HW_ rfl rfl hK4 ?_
   refine one_ (i := 12) (N := some 22) (bm 21 32767) rfl rfl (one_of HT_.o (by kernel_rfl)) (by decide) (fun K hK => ?_)
   refine goes_ Try.func27 (by kernel_rfl) rfl #[.agg #[.int .i64 a1_0, .slice A1_1 l1_1.length c1_1, .slice A1_2 l1_2.length c1_2], .int .i64 a3, .bool true] (by rfl) rfl rfl zG ?_
   with_reducible refine (impl_MovesFrom.calls k a1_0 _ _ l1_1 _ _ l1_2 a3 true t452 _ ?s1 ?s2 ?s3 ?s4 A19.o).mono ?_
   (case s1 => exact cS HR1_1 HB)
   (case s2 => exact HC1_1.o)
   (case s3 => exact cS HR1_2 HB)
   (case s4 => exact HC1_2.o)
   rintro e w29 ⟨v453, rfl, ho0, hb⟩
   refine ⟨_, rfl, ?_⟩
   have HO454 := aM (rO (Kd.R_new' (Kd.R_new' (Kd.R_new' ho0 (Kd.R_lt (zR HO445))) (Kd.R_lt (zR HO448))) (Kd.R_lt (zR HO451))) (bZ (zB HB)))
   replace HO445 := aM (Kd.R_elder' (zR HO445) (Kd.R_base ho0) hb)
   replace HO448 := aM (Kd.R_elder' (zR HO448) (Kd.R_base ho0) hb)
   replace HO451 := aM (Kd.R_elder' (zR HO451) (Kd.R_base ho0) hb)
   replace BK441 := kB BK441 hb
   replace BK442 := kB BK442 hb
   replace HB := bS HB hb
   (try clear hb); (try clear hb2); (try clear hk); (try clear hi); (try clear ho0)
   refine hK.out _ _ ⟨bc0 BK441, bc1 BK441, bc2 BK441, bc0 BK442, bc1 BK442, bc2 BK442⟩ (fun hK4 => ?_)
   clear hK K
   refine nU 22 ?_
   refine one_ (i := 15) (N := some 25) (bm 21 65535) rfl rfl (one_of HT_.o (by kernel_rfl)) (by decide) (fun K hK => ?_)
   refine goes_ Try.func27 (by kernel_rfl) rfl #[.agg #[.int .i64 a0_0, .slice A0_1 l0_1.length c0_1, .slice A0_2 l0_2.length c0_2], .int .i64 a2, .bool false] (by rfl) rfl rfl zG ?_
   with_reducible refine (impl_MovesFrom.calls k a0_0 _ _ l0_1 _ _ l0_2 a2 false t455 _ ?s1 ?s2 ?s3 ?s4 A20.o).mono ?_
   (case s1 => exact cS HR0_1 HB)
   (case s2 => exact HC0_1.o)
   (case s3 => exact cS HR0_2 HB)
   (case s4 => exact HC0_2.o)
   rintro e w30 ⟨v456, rfl, ho0, hb⟩
   refine ⟨_, rfl, ?_⟩
   have HO457 := aM (rO (Kd.R_new' (Kd.R_new' (Kd.R_new' (Kd.R_new' ho0 (Kd.R_lt (zR HO445))) (Kd.R_lt (zR HO448))) (Kd.R_lt (zR HO451))) (Kd.R_lt (zR HO454))) (bZ (zB HB)))
   replace HO445 := aM (Kd.R_elder' (zR HO445) (Kd.R_base ho0) hb)
   replace HO448 := aM (Kd.R_elder' (zR HO448) (Kd.R_base ho0) hb)
   replace HO451 := aM (Kd.R_elder' (zR HO451) (Kd.R_base ho0) hb)
   replace HO454 := aM (Kd.R_elder' (zR HO454) (Kd.R_base ho0) hb)
   replace BK441 := kB BK441 hb
   replace BK442 := kB BK442 hb
   replace HB := bS HB hb
   (try clear hb); (try clear hb2); (try clear hk); (try clear hi); (try clear ho0)
   obtain ⟨Ao31, co31, eo31⟩ := rL HO454.o
   (first | subst eo31 | (obtain ⟨f4_, f5_⟩ := slI eo31; subst f4_; subst f5_))
   obtain ⟨Ao32, co32, eo32⟩ := rL HO457.o
   (first | subst eo32 | (obtain ⟨f4_, f5_⟩ := slI eo32; subst f4_; subst f5_))
   refine hK.out _ _ ⟨bc0 BK441, bc1 BK441, bc2 BK441, bc0 BK442, bc1 BK442, bc2 BK442⟩ (fun hK4 => ?_)
   clear hK K
   refine nU 25 ?_
   refine one_ (i := 16) (N := some 26) (bm 21 131071) rfl rfl (one_of HT_.o (by kernel_rfl)) (by decide) (fun K hK => ?_)
   refine goes_ Try.func26 (by kernel_rfl) rfl #[.slice Ao31 t452.length co31, .slice Ao32 t455.length co32] (by rfl) rfl rfl zG ?_
   with_reducible refine (impl_without.calls k _ _ t452 _ _ t455 t458 _ ?s1 ?s2 ?s3 ?s4 A21.o).mono ?_
   (case s1 => exact cU (rQ HO454.o).2.2)
   (case s2 => exact (rQ HO454.o).2.1)
   (case s3 => exact cU (rQ HO457.o).2.2)
   (case s4 => exact (rQ HO457.o).2.1)
   rintro e w33 ⟨v459, rfl, ho0, hb⟩
   refine ⟨_, rfl, ?_⟩
   have HO460 := aM (rO (Kd.R_new' (Kd.R_new' (Kd.R_new' (Kd.R_new' (Kd.R_new' ho0 (Kd.R_lt (zR HO445))) (Kd.R_lt (zR HO448))) (Kd.R_lt (zR HO451))) (Kd.R_lt (zR HO454))) (Kd.R_lt (zR HO457))) (bZ (zB HB)))
   replace HO445 := aM (Kd.R_elder' (zR HO445) (Kd.R_base ho0) hb)
   replace HO448 := aM (Kd.R_elder' (zR HO448) (Kd.R_base ho0) hb)
   replace HO451 := aM (Kd.R_elder' (zR HO451) (Kd.R_base ho0) hb)
   replace HO454 := aM (Kd.R_elder' (zR HO454) (Kd.R_base ho0) hb)
   replace HO457 := aM (Kd.R_elder' (zR HO457) (Kd.R_base ho0) hb)
   replace BK441 := kB BK441 hb
   replace BK442 := kB BK442 hb
   replace HB := bS HB hb
   (try clear hb); (try clear hb2); (try clear hk); (try clear hi); (try clear ho0)
   obtain ⟨Ao34, co34, eo34⟩ := rL HO460.o
   (first | subst eo34 | (obtain ⟨f4_, f5_⟩ := slI eo34; subst f4_; subst f5_))
   refine hK.out _ _ ⟨bc0 BK441, bc1 BK441, bc2 BK441, bc0 BK442, bc1 BK442, bc2 BK442⟩ (fun hK4 => ?_)
   clear hK K
   refine nU 26 ?_
   refine pW 17 27 21 262143 HT_ rfl rfl ?_
   refine pW 18 28 21 524287 HT_ rfl rfl ?_
   refine pW 19 29 21 1048575 HT_ rfl rfl ?_
   refine pW 20 9 21 2097151 HT_ rfl rfl ?_
   refine done_ (done_of HT_.o (by kernel_rfl)) ?_
   try clear hK4
   try go_wp2
   go_meet
   case rel => exact ⟨_, (decide ((t458.length : Int) > 0)), zF, H', ⟨by first | omega | exact Nat.le_refl _⟩, ⟨zK BK441⟩, ⟨zK BK442⟩, ⟨zB HB⟩⟩
 case rest =>
  clear HC5
  try clear c1
  try clear c2
  try clear p2
  try clear c11
  try clear c11b0
  try clear c11b1
  try clear c26
  try clear c27
  obtain ⟨kq, x9_4, rfl, HA, HJ4, BK441, BK442, HB⟩ := hcut
  cases kq with
  | zero => exact absurd HA.o (by simp [impl_TroubleAt.j0])
  | succ kj4 =>
   have H := HA.o
   clear HA
   simp only [impl_TroubleAt.j0] at H
   by_cases c35 : x9_4 = true
   ·subst c35
    have H1 : (some 1) = some r := by rw [if_pos rfl] at H; exact H
    clear H
    have H := H1
    clear H1
    obtain rfl := oI H
    go_wp2
    go_ret
    exact ⟨zE, zB HB⟩
   ·replace c35 := Bool.eq_false_iff.mpr c35
    subst c35
    have H1 : ((impl_NextPairs.f kj4 a0_0 l0_1 l0_2 a1_0 l1_1 l1_2 a2 a3).bind fun t461 => (if (t461.length : Int) = 0 then ((impl_isEnd.f a0_0 l0_1 l0_2 a2).bind fun t464 => (if t464 = true then ((impl_isEnd.f a1_0 l1_1 l1_2 a3).bind fun t465 => (if t465 = true then (some 0) else (some 2))) else (some 2))) else (some 0))) = some r := by rw [if_neg (show ¬ (false = true) by decide)] at H; exact H
    clear H
    have H := H1
    clear H1
    obtain ⟨t461, A36, H⟩ := bindS H
    by_cases c37 : (t461.length : Int) = 0
    ·rw [if_pos c37] at H
     have c37b0 : ((t461.length : Int) == 0) = true := beq_iff_eq.mpr c37
     have c37b1 : ((t461.length : Int) != 0) = false := bne_eq_false_iff_eq.mpr c37
     clear c37
     obtain ⟨t464, A38, H⟩ := bindS H
     by_cases c39 : t464 = true
     ·subst c39
      have H1 : ((impl_isEnd.f a1_0 l1_1 l1_2 a3).bind fun t465 => (if t465 = true then (some 0) else (some 2))) = some r := by rw [if_pos rfl] at H; exact H
      clear H
      have H := H1
      clear H1
      obtain ⟨t465, A40, H⟩ := bindS H
      by_cases c41 : t465 = true
      ·subst c41
       have H1 : (some 0) = some r := by rw [if_pos rfl] at H; exact H
       clear H
       have H := H1
       clear H1
       obtain rfl := oI H
       have hnb42 := NB441_442.o
       have hnc42 := NB442_441.o
       obtain ⟨z43_0, z43_1, z43_2, f43_0, f43_1, f43_2⟩ := bq3 BK441
       obtain ⟨z44_0, z44_1, z44_2, f44_0, f44_1, f44_2⟩ := bq3 BK442
       go_wp2_with (first | ((with_reducible refine gC (f := 14) rfl ?_); refine goesL_ (some 35) rfl rfl Try.func14 (by kernel_rfl) rfl #[.agg #[.int .i64 a0_0, .slice A0_1 l0_1.length c0_1, .slice A0_2 l0_2.length c0_2], .agg #[.int .i64 a1_0, .slice A1_1 l1_1.length c1_1, .slice A1_2 l1_2.length c1_2], .int .i64 a2, .int .i64 a3] rfl zG ?_; (with_reducible refine (impl_NextPairs.calls kj4 a0_0 _ _ l0_1 _ _ l0_2 a1_0 _ _ l1_1 _ _ l1_2 a2 a3 t461 _ ?s1 ?s2 ?s3 ?s4 ?s5 ?s6 ?s7 ?s8 A36.o).mono ?_); (case s1 => exact cS HR0_1 HB); (case s2 => exact HC0_1.o); (case s3 => exact cS HR0_2 HB); (case s4 => exact HC0_2.o); (case s5 => exact cS HR1_1 HB); (case s6 => exact HC1_1.o); (case s7 => exact cS HR1_2 HB); (case s8 => exact HC1_2.o); rintro e w45 ⟨v462, rfl, ho0, hb⟩; refine ⟨_, rfl, ?_⟩; have HO463 := aM (Kd.S_lower ho0 (bZ (zB HB))); replace BK441 := kB BK441 hb; replace BK442 := kB BK442 hb; replace HB := bS HB hb; (try clear hb); (try clear ho0); obtain ⟨Ao46, co46, eo46⟩ := Kd.S_slice HO463.o; subst eo46; obtain ⟨z47_0, z47_1, z47_2, f47_0, f47_1, f47_2⟩ := bq3 BK441) | (go_at_call 28; (with_reducible refine (impl_isEnd.calls a0_0 _ _ l0_1 _ _ l0_2 a2 true _ ?s1 ?s2 ?s3 ?s4 A38.o).mono ?_); (case s1 => exact cS HR0_1 HB); (case s2 => exact HC0_1.o); (case s3 => exact cS HR0_2 HB); (case s4 => exact HC0_2.o); rintro e w48 ⟨rfl, hb⟩; replace HO463 := aM (Kd.S_below (zS HO463) hb); replace BK441 := kB BK441 hb; replace BK442 := kB BK442 hb; replace HB := bS HB hb; (try clear hb); obtain ⟨z49_0, z49_1, z49_2, f49_0, f49_1, f49_2⟩ := bq3 BK442) | (go_at_call 28; (with_reducible refine (impl_isEnd.calls a1_0 _ _ l1_1 _ _ l1_2 a3 true _ ?s1 ?s2 ?s3 ?s4 A40.o).mono ?_); (case s1 => exact cS HR1_1 HB); (case s2 => exact HC1_1.o); (case s3 => exact cS HR1_2 HB); (case s4 => exact HC1_2.o); rintro e w50 ⟨rfl, hb⟩; replace HO463 := aM (Kd.S_below (zS HO463) hb); replace BK441 := kB BK441 hb; replace BK442 := kB BK442 hb; replace HB := bS HB hb; (try clear hb)))
       go_ret
       exact ⟨zE, zB HB⟩
      ·replace c41 := Bool.eq_false_iff.mpr c41
       subst c41
       have H1 : (some 2) = some r := by rw [if_neg (show ¬ (false = true) by decide)] at H; exact H
       clear H
       have H := H1
       clear H1
       obtain rfl := oI H
       have hnb51 := NB441_442.o
       have hnc51 := NB442_441.o
       obtain ⟨z52_0, z52_1, z52_2, f52_0, f52_1, f52_2⟩ := bq3 BK441
       obtain ⟨z53_0, z53_1, z53_2, f53_0, f53_1, f53_2⟩ := bq3 BK442
       go_wp2_with (first | ((with_reducible refine gC (f := 14) rfl ?_); refine goesL_ (some 35) rfl rfl Try.func14 (by kernel_rfl) rfl #[.agg #[.int .i64 a0_0, .slice A0_1 l0_1.length c0_1, .slice A0_2 l0_2.length c0_2], .agg #[.int .i64 a1_0, .slice A1_1 l1_1.length c1_1, .slice A1_2 l1_2.length c1_2], .int .i64 a2, .int .i64 a3] rfl zG ?_; (with_reducible refine (impl_NextPairs.calls kj4 a0_0 _ _ l0_1 _ _ l0_2 a1_0 _ _ l1_1 _ _ l1_2 a2 a3 t461 _ ?s1 ?s2 ?s3 ?s4 ?s5 ?s6 ?s7 ?s8 A36.o).mono ?_); (case s1 => exact cS HR0_1 HB); (case s2 => exact HC0_1.o); (case s3 => exact cS HR0_2 HB); (case s4 => exact HC0_2.o); (case s5 => exact cS HR1_1 HB); (case s6 => exact HC1_1.o); (case s7 => exact cS HR1_2 HB); (case s8 => exact HC1_2.o); rintro e w54 ⟨v462, rfl, ho0, hb⟩; refine ⟨_, rfl, ?_⟩; have HO463 := aM (Kd.S_lower ho0 (bZ (zB HB))); replace BK441 := kB BK441 hb; replace BK442 := kB BK442 hb; replace HB := bS HB hb; (try clear hb); (try clear ho0); obtain ⟨Ao55, co55, eo55⟩ := Kd.S_slice HO463.o; subst eo55; obtain ⟨z56_0, z56_1, z56_2, f56_0, f56_1, f56_2⟩ := bq3 BK441) | (go_at_call 28; (with_reducible refine (impl_isEnd.calls a0_0 _ _ l0_1 _ _ l0_2 a2 true _ ?s1 ?s2 ?s3 ?s4 A38.o).mono ?_); (case s1 => exact cS HR0_1 HB); (case s2 => exact HC0_1.o); (case s3 => exact cS HR0_2 HB); (case s4 => exact HC0_2.o); rintro e w57 ⟨rfl, hb⟩; replace HO463 := aM (Kd.S_below (zS HO463) hb); replace BK441 := kB BK441 hb; replace BK442 := kB BK442 hb; replace HB := bS HB hb; (try clear hb); obtain ⟨z58_0, z58_1, z58_2, f58_0, f58_1, f58_2⟩ := bq3 BK442) | (go_at_call 28; (with_reducible refine (impl_isEnd.calls a1_0 _ _ l1_1 _ _ l1_2 a3 false _ ?s1 ?s2 ?s3 ?s4 A40.o).mono ?_); (case s1 => exact cS HR1_1 HB); (case s2 => exact HC1_1.o); (case s3 => exact cS HR1_2 HB); (case s4 => exact HC1_2.o); rintro e w59 ⟨rfl, hb⟩; replace HO463 := aM (Kd.S_below (zS HO463) hb); replace BK441 := kB BK441 hb; replace BK442 := kB BK442 hb; replace HB := bS HB hb; (try clear hb)))
       go_ret
       exact ⟨zE, zB HB⟩
     ·replace c39 := Bool.eq_false_iff.mpr c39
      subst c39
      have H1 : (some 2) = some r := by rw [if_neg (show ¬ (false = true) by decide)] at H; exact H
      clear H
      have H := H1
      clear H1
      obtain rfl := oI H
      have hnb60 := NB441_442.o
      have hnc60 := NB442_441.o
      obtain ⟨z61_0, z61_1, z61_2, f61_0, f61_1, f61_2⟩ := bq3 BK441
      obtain ⟨z62_0, z62_1, z62_2, f62_0, f62_1, f62_2⟩ := bq3 BK442
      go_wp2_with (first | ((with_reducible refine gC (f := 14) rfl ?_); refine goesL_ (some 35) rfl rfl Try.func14 (by kernel_rfl) rfl #[.agg #[.int .i64 a0_0, .slice A0_1 l0_1.length c0_1, .slice A0_2 l0_2.length c0_2], .agg #[.int .i64 a1_0, .slice A1_1 l1_1.length c1_1, .slice A1_2 l1_2.length c1_2], .int .i64 a2, .int .i64 a3] rfl zG ?_; (with_reducible refine (impl_NextPairs.calls kj4 a0_0 _ _ l0_1 _ _ l0_2 a1_0 _ _ l1_1 _ _ l1_2 a2 a3 t461 _ ?s1 ?s2 ?s3 ?s4 ?s5 ?s6 ?s7 ?s8 A36.o).mono ?_); (case s1 => exact cS HR0_1 HB); (case s2 => exact HC0_1.o); (case s3 => exact cS HR0_2 HB); (case s4 => exact HC0_2.o); (case s5 => exact cS HR1_1 HB); (case s6 => exact HC1_1.o); (case s7 => exact cS HR1_2 HB); (case s8 => exact HC1_2.o); rintro e w63 ⟨v462, rfl, ho0, hb⟩; refine ⟨_, rfl, ?_⟩; have HO463 := aM (Kd.S_lower ho0 (bZ (zB HB))); replace BK441 := kB BK441 hb; replace BK442 := kB BK442 hb; replace HB := bS HB hb; (try clear hb); (try clear ho0); obtain ⟨Ao64, co64, eo64⟩ := Kd.S_slice HO463.o; subst eo64; obtain ⟨z65_0, z65_1, z65_2, f65_0, f65_1, f65_2⟩ := bq3 BK441) | (go_at_call 28; (with_reducible refine (impl_isEnd.calls a0_0 _ _ l0_1 _ _ l0_2 a2 false _ ?s1 ?s2 ?s3 ?s4 A38.o).mono ?_); (case s1 => exact cS HR0_1 HB); (case s2 => exact HC0_1.o); (case s3 => exact cS HR0_2 HB); (case s4 => exact HC0_2.o); rintro e w66 ⟨rfl, hb⟩; replace HO463 := aM (Kd.S_below (zS HO463) hb); replace BK441 := kB BK441 hb; replace BK442 := kB BK442 hb; replace HB := bS HB hb; (try clear hb)))
      go_ret
      exact ⟨zE, zB HB⟩
    ·rw [if_neg c37] at H
     have c37b0 : ((t461.length : Int) == 0) = false := beq_eq_false_iff_ne.mpr c37
     have c37b1 : ((t461.length : Int) != 0) = true := bne_iff_ne.mpr c37
     have c37b2 : ¬ (t461 = []) := fun h_ => c37 (by rw [h_]; rfl)
     obtain rfl := oI H
     have hnb67 := NB441_442.o
     have hnc67 := NB442_441.o
     obtain ⟨z68_0, z68_1, z68_2, f68_0, f68_1, f68_2⟩ := bq3 BK441
     obtain ⟨z69_0, z69_1, z69_2, f69_0, f69_1, f69_2⟩ := bq3 BK442
     go_wp2_with (first | ((with_reducible refine gC (f := 14) rfl ?_); refine goesL_ (some 35) rfl rfl Try.func14 (by kernel_rfl) rfl #[.agg #[.int .i64 a0_0, .slice A0_1 l0_1.length c0_1, .slice A0_2 l0_2.length c0_2], .agg #[.int .i64 a1_0, .slice A1_1 l1_1.length c1_1, .slice A1_2 l1_2.length c1_2], .int .i64 a2, .int .i64 a3] rfl zG ?_; (with_reducible refine (impl_NextPairs.calls kj4 a0_0 _ _ l0_1 _ _ l0_2 a1_0 _ _ l1_1 _ _ l1_2 a2 a3 t461 _ ?s1 ?s2 ?s3 ?s4 ?s5 ?s6 ?s7 ?s8 A36.o).mono ?_); (case s1 => exact cS HR0_1 HB); (case s2 => exact HC0_1.o); (case s3 => exact cS HR0_2 HB); (case s4 => exact HC0_2.o); (case s5 => exact cS HR1_1 HB); (case s6 => exact HC1_1.o); (case s7 => exact cS HR1_2 HB); (case s8 => exact HC1_2.o); rintro e w70 ⟨v462, rfl, ho0, hb⟩; refine ⟨_, rfl, ?_⟩; have HO463 := aM (Kd.S_lower ho0 (bZ (zB HB))); replace BK441 := kB BK441 hb; replace BK442 := kB BK442 hb; replace HB := bS HB hb; (try clear hb); (try clear ho0); obtain ⟨Ao71, co71, eo71⟩ := Kd.S_slice HO463.o; subst eo71))
     go_ret
     exact ⟨zE, zB HB⟩

/-! ### impl_FirstTrouble: function 8 -/
def impl_FirstTrouble.l0 : Nat → List (List Int) → Int → Int → Int → List Bool → List (S46) → Int → List Bool → List (S46) → Option (List Int)
 | 0, _, _, _, _, _, _, _, _, _ => none
 | k + 1, x9, x10, x11, x467000, x467001, x467002, x468000, x468001, x468002 => if x11 < x10 then (if 0 ≤ x11 then (if x11 < (x9.length : Int) then (if 0 < ((rd_L4 x9 x11).length : Int) then (if 1 < ((rd_L4 x9 x11).length : Int) then ((impl_TroubleAt.f k x467000 x467001 x467002 x468000 x468001 x468002 (rd (rd_L4 x9 x11) 0) (rd (rd_L4 x9 x11) 1)).bind fun t474 => (if t474 = 0 then (impl_FirstTrouble.l0 k x9 x10 (wrap64 (x11 + 1)) x467000 x467001 x467002 x468000 x468001 x468002) else (some (rd_L4 x9 x11)))) else (none)) else (none)) else (none)) else (none)) else (some ([] : List Int))
def impl_FirstTrouble.f (k : Nat) (a0_0 : Int) (l0_1 : List Bool) (l0_2 : List (S46)) (a1_0 : Int) (l1_1 : List Bool) (l1_2 : List (S46)) : Option (List Int) := (impl_PairsOf.f k a0_0 l0_1 l0_2 a1_0 l1_1 l1_2).bind fun t468 => (impl_FirstTrouble.l0 k t468 (t468.length : Int) 0 a0_0 l0_1 l0_2 a1_0 l1_1 l1_2)
theorem impl_FirstTrouble.mono_l : ∀ k, (∀ y0 y1 y2 y3 y4 y5 y6 y7 y8, LeO (impl_FirstTrouble.l0 k y0 y1 y2 y3 y4 y5 y6 y7 y8) (impl_FirstTrouble.l0 (k + 1) y0 y1 y2 y3 y4 y5 y6 y7 y8))
 | 0 => fun _ _ _ _ _ _ _ _ _ r h => by simp [impl_FirstTrouble.l0] at h
 | k + 1 => by
  have ih0 := impl_FirstTrouble.mono_l k
  ·intro y0 y1 y2 y3 y4 y5 y6 y7 y8
   unfold impl_FirstTrouble.l0
   repeat' first
   | (with_reducible first | exact ih0 _ _ _ _ _ _ _ _ _ | exact impl_PairsOf.mono _ _ _ _ _ _ _ | exact impl_TroubleAt.mono _ _ _ _ _ _ _ _ _ | exact LeO.refl _ | exact LeO.none _ | refine LeO.ite ?_ ?_ | refine LeO.bind ?_ (fun _ => ?_))
   | exact ih0 _ _ _ _ _ _ _ _ _
   | exact impl_PairsOf.mono _ _ _ _ _ _ _
   | exact impl_TroubleAt.mono _ _ _ _ _ _ _ _ _
   | exact LeO.none _
   | refine LeO.ite ?_ ?_
   | refine LeO.bind ?_ (fun _ => ?_)
theorem impl_FirstTrouble.mono : ∀ a0 a1 a2 a3 a4 a5 k, LeO (impl_FirstTrouble.f k a0 a1 a2 a3 a4 a5) (impl_FirstTrouble.f (k + 1) a0 a1 a2 a3 a4 a5) := by
 intro a0 a1 a2 a3 a4 a5 k
 have ih0 := impl_FirstTrouble.mono_l k
 unfold impl_FirstTrouble.f
 repeat' first
   | (with_reducible first | exact ih0 _ _ _ _ _ _ _ _ _ | exact impl_PairsOf.mono _ _ _ _ _ _ _ | exact impl_TroubleAt.mono _ _ _ _ _ _ _ _ _ | exact LeO.refl _ | exact LeO.none _ | refine LeO.ite ?_ ?_ | refine LeO.bind ?_ (fun _ => ?_))
   | exact ih0 _ _ _ _ _ _ _ _ _
   | exact impl_PairsOf.mono _ _ _ _ _ _ _
   | exact impl_TroubleAt.mono _ _ _ _ _ _ _ _ _
   | exact LeO.none _
   | refine LeO.ite ?_ ?_
   | refine LeO.bind ?_ (fun _ => ?_)
def impl_FirstTrouble.T4 : Bool × List (List Nat × List Nat) := (true, [([], []), ([], []), ([], []), ([2], [2]), ([3], [3]), ([], []), ([5], [5]), ([6], [6]), ([0, 1, 4, 7], [0, 1, 4, 7]), ([8], [8])])
def impl_FirstTrouble.B4 : List Nat := [0, 0, 0, 4, 12, 0, 32, 96, 255, 511]
theorem impl_FirstTrouble.tab4 : rtab .any (opsOf Try.f8 4) = impl_FirstTrouble.T4 := by kernel_rfl
theorem impl_FirstTrouble.bits4 : waitsOk impl_FirstTrouble.T4.2 impl_FirstTrouble.B4 = true := by kernel_rfl
set_option maxHeartbeats 8000000 in
set_option maxRecDepth 100000 in
theorem impl_FirstTrouble.calls (k : Nat) (a0_0 : Int) (A0_1 : Option Addr) (c0_1 : Nat) (l0_1 : List Bool) (A0_2 : Option Addr) (c0_2 : Nat) (l0_2 : List (S46)) (a1_0 : Int) (A1_1 : Option Addr) (c1_1 : Nat) (l1_1 : List Bool) (A1_2 : Option Addr) (c1_2 : Nat) (l1_2 : List (S46)) (r : List Int) (w : World) (hr0_1 : Kd.C Kd.bool w A0_1 l0_1.length l0_1) (hc0_1 : l0_1.length ≤ c0_1) (hr0_2 : Kd.C k46 w A0_2 l0_2.length l0_2) (hc0_2 : l0_2.length ≤ c0_2) (hr1_1 : Kd.C Kd.bool w A1_1 l1_1.length l1_1) (hc1_1 : l1_1.length ≤ c1_1) (hr1_2 : Kd.C k46 w A1_2 l1_2.length l1_2) (hc1_2 : l1_2.length ≤ c1_2) (h : impl_FirstTrouble.f k a0_0 l0_1 l0_2 a1_0 l1_1 l1_2 = some r) :
  Calls Try.prog 8 #[.agg #[.int .i64 a0_0, .slice A0_1 l0_1.length c0_1, .slice A0_2 l0_2.length c0_2], .agg #[.int .i64 a1_0, .slice A1_1 l1_1.length c1_1, .slice A1_2 l1_2.length c1_2]] w fun e w' => ∃ v0_ : Value, e = .returned (v0_) ∧ Kd.R (Kd.int .i64) 3 w' w.heap.size (fun _ => True) v0_ r ∧ Below w.heap.size w w' := by
 have hu27 := Try.underlying27
 have HR0_1 := aM hr0_1
 have HC0_1 := aM hc0_1
 clear hr0_1 hc0_1
 have HR0_2 := aM hr0_2
 have HC0_2 := aM hc0_2
 clear hr0_2 hc0_2
 have HR1_1 := aM hr1_1
 have HC1_1 := aM hc1_1
 clear hr1_1 hc1_1
 have HR1_2 := aM hr1_2
 have HC1_2 := aM hc1_2
 clear hr1_2 hc1_2
 have HB := aM (Below.refl w.heap.size w)
 have H : ((impl_PairsOf.f k a0_0 l0_1 l0_2 a1_0 l1_1 l1_2).bind fun t468 => (impl_FirstTrouble.l0 k t468 (t468.length : Int) 0 a0_0 l0_1 l0_2 a1_0 l1_1 l1_2)) = some r := h
 clear h
 obtain ⟨t468, A3, H⟩ := bindS H
 have H' := aM H
 clear H
 go_enter Try.func8, Try.ntmps8
 go_wp2_with (first | ((with_reducible refine gD (N := 2) rfl ?_); refine box_event ?hg (N := 2) ?hd (cs := #[.int .i64 a0_0, .slice A0_1 l0_1.length c0_1, .slice A0_2 l0_2.length c0_2]) (t := 27) ?hr ?_; (case hd => rfl); (case hg => rfl); (case hr => first | (go_simp; done) | (go_simp; rfl)); intro gb466 hg w4 hbox hb; have BK466 := aM (hbox); have GW466 := gS HB hg; have GE466 := gS HB hg; replace HB := bS HB hb; clear hb hbox hg) | ((with_reducible refine gD (N := 3) rfl ?_); refine box_event ?hg (N := 3) ?hd (cs := #[.int .i64 a1_0, .slice A1_1 l1_1.length c1_1, .slice A1_2 l1_2.length c1_2]) (t := 27) ?hr ?_; (case hd => rfl); (case hg => rfl); (case hr => first | (go_simp; done) | (go_simp; rfl)); intro gb467 hg w5 hbox hb; have BK467 := aM (hbox); have GW467 := gS HB hg; have GE467 := gS HB hg; replace HB := bS HB hb; have NB466_467 := nL BK466 hg; have NB467_466 := nR BK466 hg; replace BK466 := kB BK466 hb; clear hb hbox hg; have hnb6 := NB466_467.o; have hnc6 := NB467_466.o; obtain ⟨z7_0, z7_1, z7_2, f7_0, f7_1, f7_2⟩ := bq3 BK466; obtain ⟨z8_0, z8_1, z8_2, f8_0, f8_1, f8_2⟩ := bq3 BK467) | ((with_reducible refine gC (f := 9) rfl ?_); refine goesL_ (some 9) rfl rfl Try.func9 (by kernel_rfl) rfl #[.agg #[.int .i64 a0_0, .slice A0_1 l0_1.length c0_1, .slice A0_2 l0_2.length c0_2], .agg #[.int .i64 a1_0, .slice A1_1 l1_1.length c1_1, .slice A1_2 l1_2.length c1_2]] rfl zG ?_; (with_reducible refine (impl_PairsOf.calls k a0_0 _ _ l0_1 _ _ l0_2 a1_0 _ _ l1_1 _ _ l1_2 t468 _ ?s1 ?s2 ?s3 ?s4 ?s5 ?s6 ?s7 ?s8 A3.o).mono ?_); (case s1 => exact cS HR0_1 HB); (case s2 => exact HC0_1.o); (case s3 => exact cS HR0_2 HB); (case s4 => exact HC0_2.o); (case s5 => exact cS HR1_1 HB); (case s6 => exact HC1_1.o); (case s7 => exact cS HR1_2 HB); (case s8 => exact HC1_2.o); rintro e w9 ⟨v469, rfl, ho0, hb⟩; refine ⟨_, rfl, ?_⟩; have HO470 := aM (Kd.S_lower ho0 (bZ (zB HB))); replace BK466 := kB BK466 hb; replace BK467 := kB BK467 hb; replace HB := bS HB hb; (try clear hb); (try clear ho0); obtain ⟨Ao10, co10, eo10⟩ := Kd.S_slice HO470.o; subst eo10))
 go_loopg [11] k (fun kq v11 w' => ∃ (x11_1 : Int), v11 = .int .i64 x11_1 ∧ Aside0 (impl_FirstTrouble.l0 kq t468 (t468.length : Int) x11_1 a0_0 l0_1 l0_2 a1_0 l1_1 l1_2 = some r) ∧ Aside0 (kq ≤ k) ∧ Aside0 (Kd.S (Kd.slice 3 (Kd.int .i64)) 31 w' w.heap.size (fun _ => True) (.slice Ao10 t468.length co10) t468) ∧ Aside0 (w'.heap[gb466]? = some (.cells #[.int .i64 a0_0, (.slice A0_1 l0_1.length c0_1), (.slice A0_2 l0_2.length c0_2)] 27 (0, 0))) ∧ Aside0 (w'.heap[gb467]? = some (.cells #[.int .i64 a1_0, (.slice A1_1 l1_1.length c1_1), (.slice A1_2 l1_2.length c1_2)] 27 (0, 0))) ∧ Aside0 (Below w.heap.size w w'))
 case atStart => exact ⟨(0), zF, H', ⟨Nat.le_refl _⟩, ⟨zS HO470⟩, ⟨zK BK466⟩, ⟨zK BK467⟩, ⟨zB HB⟩⟩
 case round =>
  clear H'
  try clear c1
  try clear p2
  try clear c6
  try clear c8
  try clear c9
  try clear z7_0
  try clear z7_1
  try clear z7_2
  try clear z8_0
  try clear z8_1
  try clear z8_2
  try clear f7_0
  try clear f7_1
  try clear f7_2
  try clear f8_0
  try clear f8_1
  try clear f8_2
  obtain ⟨x11_1, rfl, HA, HK1, HO_9, BK466, BK467, HB⟩ := hrel
  cases gk with
  | zero => exact absurd HA.o (by simp [impl_FirstTrouble.l0])
  | succ k1 =>
   have H := HA.o
   clear HA
   simp only [impl_FirstTrouble.l0] at H
   by_cases c11 : x11_1 < (t468.length : Int)
   ·rw [if_pos c11] at H
    have c11b0 : decide (x11_1 < (t468.length : Int)) = true := dT c11
    clear c11
    obtain ⟨c12, H⟩ := ifS H
    have c12b0 : decide (0 ≤ x11_1) = true := dT c12
    clear c12
    obtain ⟨c13, H⟩ := ifS H
    have c13b0 : decide (x11_1 < (t468.length : Int)) = true := dT c13
    clear c13
    obtain ⟨c14, H⟩ := ifS H
    have c14b0 : decide (0 < ((rd_L4 t468 x11_1).length : Int)) = true := dT c14
    have c14b1 : decide (0 < (rd_L4 t468 x11_1).length) = true := dT (by omega)
    clear c14
    obtain ⟨c15, H⟩ := ifS H
    have c15b0 : decide (1 < ((rd_L4 t468 x11_1).length : Int)) = true := dT c15
    have c15b1 : decide (1 < (rd_L4 t468 x11_1).length) = true := dT (by omega)
    clear c15
    obtain ⟨t474, A16, H⟩ := bindS H
    by_cases c17 : t474 = 0
    ·rw [if_pos c17] at H
     have c17b0 : (t474 == 0) = true := beq_iff_eq.mpr c17
     have c17b1 : (t474 != 0) = false := bne_eq_false_iff_eq.mpr c17
     clear c17
     have H' := aM H
     clear H
     have p471 : 0 ≤ (x11_1 : Int) := zD
     have q471 : x11_1 < (t468.length : Int) := zD
     obtain ⟨ad471, A471_0, c471_0, e471, hx471_0, hl471_0, hi471_0⟩ := at_L4 (Kd.S_reads' HO_9.o).2.2 x11_1 p471 q471
     cases e471
     obtain ⟨ce471, hce471, hMe471, hcc471⟩ := Kd.S_get HO_9.o [] x11_1 p471 (by first | exact q471 | exact zD | (have e_ := (Kd.S_reads' HO_9.o).1; omega))
     obtain ⟨ve471_0, rfl, ge471_0⟩ := hMe471
     have hv471_0 := hcc471 0 _ rfl
     rw [Nat.add_zero, show ((Kd.slice 3 (Kd.int .i64))).sz = 1 from rfl, Nat.mul_one] at hv471_0
     replace hv471_0 := oI (hv471_0.symm.trans hx471_0)
     rw [hv471_0] at ge471_0
     have HL471_0 := aM (show Kd.R (Kd.int .i64) 3 _ _ _ _ (rd_L4 t468 x11_1) from ge471_0)
     clear hv471_0 ge471_0
     clear hcc471 hce471
     have HR471_0 := aM hi471_0
     have HC471_0 := aM hl471_0
     clear hi471_0 hl471_0
     replace p471 := eq_true p471
     replace q471 := eq_true q471
     try go_wp2
     replace HO_9 := aM (Kd.S_drew HO_9.o)
     replace HL471_0 := aM (rD HL471_0.o)
     replace BK466 := aM (bD BK466.o)
     replace BK467 := aM (bD BK467.o)
     replace HR471_0 := aM (qD HR471_0.o)
     replace HB := aM (below_drew1 HB.o)
     have p472 : 0 ≤ (0 : Int) := (by omega)
     have q472 : 0 < ((rd_L4 t468 x11_1).length : Int) := zD
     obtain ⟨ad472, e472, hx472_0⟩ := Kd.at_int (by repeat (first | (with_reducible exact HR471_0.o) | (with_reducible refine qA ?_ _) | (with_reducible refine qN ?_ _) | (with_reducible refine qD ?_) | exact HR471_0.o)) 0 p472 q472
     cases e472
     have qi472 : (0 < (rd_L4 t468 x11_1).length) = True := eq_true (by omega)
     (try rw [show ((0 : Int)).toNat = 0 from rfl] at hx472_0)
     (try rw [Addr.add_zero'] at hx472_0)
     replace p472 := eq_true p472
     replace q472 := eq_true q472
     have p473 : 0 ≤ (1 : Int) := (by omega)
     have q473 : 1 < ((rd_L4 t468 x11_1).length : Int) := zD
     obtain ⟨ad473, e473, hx473_0⟩ := Kd.at_int (by repeat (first | (with_reducible exact HR471_0.o) | (with_reducible refine qA ?_ _) | (with_reducible refine qN ?_ _) | (with_reducible refine qD ?_) | exact HR471_0.o)) 1 p473 q473
     obtain rfl : ad472 = ad473 := (by injection e473)
     (try simp only [show (1 : Int).toNat = 1 from rfl, Nat.reduceMul, Nat.reduceEqDiff, Go.Addr.add, ↓reduceIte] at hx473_0)
     have qi473 : (1 < (rd_L4 t468 x11_1).length) = True := eq_true (by omega)
     (try rw [show ((1 : Int)).toNat = 1 from rfl] at hx473_0)
     replace p473 := eq_true p473
     replace q473 := eq_true q473
     refine start_ (n := 10) (S := fun w' => w'.cell? ⟨gb466, 0, none⟩ = some (.int .i64 a0_0) ∧ w'.cell? ⟨gb466, 1, none⟩ = some (.slice A0_1 l0_1.length c0_1) ∧ w'.cell? ⟨gb466, 2, none⟩ = some (.slice A0_2 l0_2.length c0_2) ∧ w'.cell? ⟨gb467, 0, none⟩ = some (.int .i64 a1_0) ∧ w'.cell? ⟨gb467, 1, none⟩ = some (.slice A1_1 l1_1.length c1_1) ∧ w'.cell? ⟨gb467, 2, none⟩ = some (.slice A1_2 l1_2.length c1_2) ∧ w'.cell? ad472 = some (.int .i64 (rd (rd_L4 t468 x11_1) 0)) ∧ w'.cell? ⟨ad472.block, ad472.off + 1, none⟩ = some (.int .i64 (rd (rd_L4 t468 x11_1) 1))) (ds := []) (bm 10 0) (by kernel_rfl) rfl (bm0 _) ⟨bc0 BK466, bc1 BK466, bc2 BK466, bc0 BK467, bc1 BK467, bc2 BK467, hx472_0, hx473_0⟩ (fun hK4 => ?_); refine with_tabW impl_FirstTrouble.tab4 impl_FirstTrouble.bits4 (fun HT_ HW_ => ?_)
     generalize wr.drew = w18 at HO_9 HL471_0 BK466 BK467 HR471_0 HB hx472_0 hx473_0 hK4 ⊢
     refine pW 2 17 10 4 HT_ rfl rfl ?_
     refine pW 3 18 10 12 HT_ rfl rfl ?_
     refine pW 5 20 10 44 HT_ rfl rfl ?_
     refine pW 6 21 10 108 HT_ rfl rfl ?_
     refine tW 0 15 10 109 HT_ HW_ rfl rfl hK4 ?_
     refine tW 1 16 10 111 HT_ HW_ rfl rfl hK4 ?_
     refine tW 4 19 10 127 HT_ HW_ rfl rfl hK4 ?_
     refine tW 7 22 10 255 HT_ HW_ rfl rfl hK4 ?_
     refine one_ (i := 8) (N := some 23) (bm 10 511) rfl rfl (one_of HT_.o (by kernel_rfl)) (by decide) (fun K hK => ?_)
     refine goes_ Try.func13 (by kernel_rfl) rfl #[.agg #[.int .i64 a0_0, .slice A0_1 l0_1.length c0_1, .slice A0_2 l0_2.length c0_2], .agg #[.int .i64 a1_0, .slice A1_1 l1_1.length c1_1, .slice A1_2 l1_2.length c1_2], .int .i64 (rd (rd_L4 t468 x11_1) 0), .int .i64 (rd (rd_L4 t468 x11_1) 1)] (by rfl) rfl rfl zG ?_
     with_reducible refine (impl_TroubleAt.calls k1 a0_0 _ _ l0_1 _ _ l0_2 a1_0 _ _ l1_1 _ _ l1_2 (rd (rd_L4 t468 x11_1) 0) (rd (rd_L4 t468 x11_1) 1) t474 _ ?s1 ?s2 ?s3 ?s4 ?s5 ?s6 ?s7 ?s8 A16.o).mono ?_
     (case s1 => exact cS HR0_1 HB)
     (case s2 => exact HC0_1.o)
     (case s3 => exact cS HR0_2 HB)
     (case s4 => exact HC0_2.o)
     (case s5 => exact cS HR1_1 HB)
     (case s6 => exact HC1_1.o)
     (case s7 => exact cS HR1_2 HB)
     (case s8 => exact HC1_2.o)
     rintro e w19 ⟨rfl, hb⟩
     have HS6_ := (hb.cell (wL _ _ (hK4.2.2.2.2.2.2.1))).trans (hK4.2.2.2.2.2.2.1)
     have HS7_ := (hb.cell (wL _ _ (hK4.2.2.2.2.2.2.2))).trans (hK4.2.2.2.2.2.2.2)
     refine ⟨_, rfl, ?_⟩
     replace HO_9 := aM (Kd.S_below (zS HO_9) hb)
     replace HL471_0 := aM (rW (zR HL471_0) hb)
     replace BK466 := kB BK466 hb
     replace BK467 := kB BK467 hb
     replace HR471_0 := aM (Kd.C_below (by repeat (first | (with_reducible exact HR471_0.o) | (with_reducible refine qA ?_ _) | (with_reducible refine qN ?_ _) | (with_reducible refine qD ?_) | exact HR471_0.o)) hb)
     replace HB := bS HB hb
     (try clear hb); (try clear hb2); (try clear hk); (try clear hi)
     refine hK.out _ _ ⟨bc0 BK466, bc1 BK466, bc2 BK466, bc0 BK467, bc1 BK467, bc2 BK467, HS6_, HS7_⟩ (fun hK4 => ?_)
     clear hK K
     refine nU 23 ?_
     refine pW 9 24 10 1023 HT_ rfl rfl ?_
     refine done_ (done_of HT_.o (by kernel_rfl)) ?_
     try clear hK4
     try go_wp2
     go_roundg k1
     case measure => have := HK1.o; omega
     case rel => exact ⟨(wrap64 (x11_1 + 1)), zF, H', ⟨by have := HK1.o; omega⟩, ⟨zS HO_9⟩, ⟨zK BK466⟩, ⟨zK BK467⟩, ⟨zB HB⟩⟩
    ·rw [if_neg c17] at H
     have c17b0 : (t474 == 0) = false := beq_eq_false_iff_ne.mpr c17
     have c17b1 : (t474 != 0) = true := bne_iff_ne.mpr c17
     obtain rfl := oI H
     have p471 : 0 ≤ (x11_1 : Int) := zD
     have q471 : x11_1 < (t468.length : Int) := zD
     obtain ⟨ad471, A471_0, c471_0, e471, hx471_0, hl471_0, hi471_0⟩ := at_L4 (Kd.S_reads' HO_9.o).2.2 x11_1 p471 q471
     cases e471
     obtain ⟨ce471, hce471, hMe471, hcc471⟩ := Kd.S_get HO_9.o [] x11_1 p471 (by first | exact q471 | exact zD | (have e_ := (Kd.S_reads' HO_9.o).1; omega))
     obtain ⟨ve471_0, rfl, ge471_0⟩ := hMe471
     have hv471_0 := hcc471 0 _ rfl
     rw [Nat.add_zero, show ((Kd.slice 3 (Kd.int .i64))).sz = 1 from rfl, Nat.mul_one] at hv471_0
     replace hv471_0 := oI (hv471_0.symm.trans hx471_0)
     rw [hv471_0] at ge471_0
     have HL471_0 := aM (show Kd.R (Kd.int .i64) 3 _ _ _ _ (rd_L4 t468 x11_1) from ge471_0)
     clear hv471_0 ge471_0
     clear hcc471 hce471
     have HR471_0 := aM hi471_0
     have HC471_0 := aM hl471_0
     clear hi471_0 hl471_0
     replace p471 := eq_true p471
     replace q471 := eq_true q471
     try go_wp2
     replace HO_9 := aM (Kd.S_drew HO_9.o)
     replace HL471_0 := aM (rD HL471_0.o)
     replace BK466 := aM (bD BK466.o)
     replace BK467 := aM (bD BK467.o)
     replace HR471_0 := aM (qD HR471_0.o)
     replace HB := aM (below_drew1 HB.o)
     have p472 : 0 ≤ (0 : Int) := (by omega)
     have q472 : 0 < ((rd_L4 t468 x11_1).length : Int) := zD
     obtain ⟨ad472, e472, hx472_0⟩ := Kd.at_int (by repeat (first | (with_reducible exact HR471_0.o) | (with_reducible refine qA ?_ _) | (with_reducible refine qN ?_ _) | (with_reducible refine qD ?_) | exact HR471_0.o)) 0 p472 q472
     cases e472
     have qi472 : (0 < (rd_L4 t468 x11_1).length) = True := eq_true (by omega)
     (try rw [show ((0 : Int)).toNat = 0 from rfl] at hx472_0)
     (try rw [Addr.add_zero'] at hx472_0)
     replace p472 := eq_true p472
     replace q472 := eq_true q472
     have p473 : 0 ≤ (1 : Int) := (by omega)
     have q473 : 1 < ((rd_L4 t468 x11_1).length : Int) := zD
     obtain ⟨ad473, e473, hx473_0⟩ := Kd.at_int (by repeat (first | (with_reducible exact HR471_0.o) | (with_reducible refine qA ?_ _) | (with_reducible refine qN ?_ _) | (with_reducible refine qD ?_) | exact HR471_0.o)) 1 p473 q473
     obtain rfl : ad472 = ad473 := (by injection e473)
     (try simp only [show (1 : Int).toNat = 1 from rfl, Nat.reduceMul, Nat.reduceEqDiff, Go.Addr.add, ↓reduceIte] at hx473_0)
     have qi473 : (1 < (rd_L4 t468 x11_1).length) = True := eq_true (by omega)
     (try rw [show ((1 : Int)).toNat = 1 from rfl] at hx473_0)
     replace p473 := eq_true p473
     replace q473 := eq_true q473
     refine start_ (n := 10) (S := fun w' => w'.cell? ⟨gb466, 0, none⟩ = some (.int .i64 a0_0) ∧ w'.cell? ⟨gb466, 1, none⟩ = some (.slice A0_1 l0_1.length c0_1) ∧ w'.cell? ⟨gb466, 2, none⟩ = some (.slice A0_2 l0_2.length c0_2) ∧ w'.cell? ⟨gb467, 0, none⟩ = some (.int .i64 a1_0) ∧ w'.cell? ⟨gb467, 1, none⟩ = some (.slice A1_1 l1_1.length c1_1) ∧ w'.cell? ⟨gb467, 2, none⟩ = some (.slice A1_2 l1_2.length c1_2) ∧ w'.cell? ad472 = some (.int .i64 (rd (rd_L4 t468 x11_1) 0)) ∧ w'.cell? ⟨ad472.block, ad472.off + 1, none⟩ = some (.int .i64 (rd (rd_L4 t468 x11_1) 1))) (ds := []) (bm 10 0) (by kernel_rfl) rfl (bm0 _) ⟨bc0 BK466, bc1 BK466, bc2 BK466, bc0 BK467, bc1 BK467, bc2 BK467, hx472_0, hx473_0⟩ (fun hK4 => ?_); refine with_tabW impl_FirstTrouble.tab4 impl_FirstTrouble.bits4 (fun HT_ HW_ => ?_)
     generalize wr.drew = w20 at HO_9 HL471_0 BK466 BK467 HR471_0 HB hx472_0 hx473_0 hK4 ⊢
     refine pW 2 17 10 4 HT_ rfl rfl ?_
     refine pW 3 18 10 12 HT_ rfl rfl ?_
     refine pW 5 20 10 44 HT_ rfl rfl ?_
     refine pW 6 21 10 108 HT_ rfl rfl ?_
     refine tW 0 15 10 109 HT_ HW_ rfl rfl hK4 ?_
     refine tW 1 16 10 111 HT_ HW_ rfl rfl hK4 ?_
     refine tW 4 19 10 127 HT_ HW_ rfl rfl hK4 ?_
     refine tW 7 22 10 255 HT_ HW_ rfl rfl hK4 ?_
     refine one_ (i := 8) (N := some 23) (bm 10 511) rfl rfl (one_of HT_.o (by kernel_rfl)) (by decide) (fun K hK => ?_)
     refine goes_ Try.func13 (by kernel_rfl) rfl #[.agg #[.int .i64 a0_0, .slice A0_1 l0_1.length c0_1, .slice A0_2 l0_2.length c0_2], .agg #[.int .i64 a1_0, .slice A1_1 l1_1.length c1_1, .slice A1_2 l1_2.length c1_2], .int .i64 (rd (rd_L4 t468 x11_1) 0), .int .i64 (rd (rd_L4 t468 x11_1) 1)] (by rfl) rfl rfl zG ?_
     with_reducible refine (impl_TroubleAt.calls k1 a0_0 _ _ l0_1 _ _ l0_2 a1_0 _ _ l1_1 _ _ l1_2 (rd (rd_L4 t468 x11_1) 0) (rd (rd_L4 t468 x11_1) 1) t474 _ ?s1 ?s2 ?s3 ?s4 ?s5 ?s6 ?s7 ?s8 A16.o).mono ?_
     (case s1 => exact cS HR0_1 HB)
     (case s2 => exact HC0_1.o)
     (case s3 => exact cS HR0_2 HB)
     (case s4 => exact HC0_2.o)
     (case s5 => exact cS HR1_1 HB)
     (case s6 => exact HC1_1.o)
     (case s7 => exact cS HR1_2 HB)
     (case s8 => exact HC1_2.o)
     rintro e w21 ⟨rfl, hb⟩
     have HS6_ := (hb.cell (wL _ _ (hK4.2.2.2.2.2.2.1))).trans (hK4.2.2.2.2.2.2.1)
     have HS7_ := (hb.cell (wL _ _ (hK4.2.2.2.2.2.2.2))).trans (hK4.2.2.2.2.2.2.2)
     refine ⟨_, rfl, ?_⟩
     replace HO_9 := aM (Kd.S_below (zS HO_9) hb)
     replace HL471_0 := aM (rW (zR HL471_0) hb)
     replace BK466 := kB BK466 hb
     replace BK467 := kB BK467 hb
     replace HR471_0 := aM (Kd.C_below (by repeat (first | (with_reducible exact HR471_0.o) | (with_reducible refine qA ?_ _) | (with_reducible refine qN ?_ _) | (with_reducible refine qD ?_) | exact HR471_0.o)) hb)
     replace HB := bS HB hb
     (try clear hb); (try clear hb2); (try clear hk); (try clear hi)
     refine hK.out _ _ ⟨bc0 BK466, bc1 BK466, bc2 BK466, bc0 BK467, bc1 BK467, bc2 BK467, HS6_, HS7_⟩ (fun hK4 => ?_)
     clear hK K
     refine nU 23 ?_
     refine pW 9 24 10 1023 HT_ rfl rfl ?_
     refine done_ (done_of HT_.o (by kernel_rfl)) ?_
     try clear hK4
     try go_wp2
     go_ret
     exact ⟨_, zE, by (with_reducible repeat (first | apply rA | apply rN | apply rD)); exact rM HL471_0.o (fun _ hk => trivial), zB HB⟩
   ·rw [if_neg c11] at H
    have c11b0 : decide (x11_1 < (t468.length : Int)) = false := decide_eq_false c11
    clear c11
    obtain rfl := oI H
    go_wp2
    go_ret
    exact ⟨_, zE, by first | exact Kd.R_nil _ _ _ _ _ | exact Kd.N_nil _ _ _ _ _ | exact Kd.V_nil _ _ _ _ _ | exact Kd.Q_nil _ _ _ _ _ | exact Kd.S_nil _ _ _ _ _, zB HB⟩

/-! ### impl_IsSafe: function 7 -/
def impl_IsSafe.f (k : Nat) (a0_0 : Int) (l0_1 : List Bool) (l0_2 : List (S46)) (a1_0 : Int) (l1_1 : List Bool) (l1_2 : List (S46)) : Option (Bool) := (impl_IsMachine.f k a0_0 l0_1 l0_2).bind fun t477 => (if t477 = true then ((impl_IsMachine.f k a1_0 l1_1 l1_2).bind fun t478 => (if t478 = true then ((impl_FirstTrouble.f k a0_0 l0_1 l0_2 a1_0 l1_1 l1_2).bind fun t479 => (some ((t479.length : Int) == 0))) else (some false))) else (some false))
theorem impl_IsSafe.mono : ∀ a0 a1 a2 a3 a4 a5 k, LeO (impl_IsSafe.f k a0 a1 a2 a3 a4 a5) (impl_IsSafe.f (k + 1) a0 a1 a2 a3 a4 a5) := by
 intro a0 a1 a2 a3 a4 a5 k
 unfold impl_IsSafe.f
 repeat' first
   | (with_reducible first | exact impl_FirstTrouble.mono _ _ _ _ _ _ _ | exact impl_IsMachine.mono _ _ _ _ | exact LeO.refl _ | exact LeO.none _ | refine LeO.ite ?_ ?_ | refine LeO.bind ?_ (fun _ => ?_))
   | exact impl_FirstTrouble.mono _ _ _ _ _ _ _
   | exact impl_IsMachine.mono _ _ _ _
   | exact LeO.none _
   | refine LeO.ite ?_ ?_
   | refine LeO.bind ?_ (fun _ => ?_)
set_option maxHeartbeats 8000000 in
set_option maxRecDepth 100000 in
theorem impl_IsSafe.calls (k : Nat) (a0_0 : Int) (A0_1 : Option Addr) (c0_1 : Nat) (l0_1 : List Bool) (A0_2 : Option Addr) (c0_2 : Nat) (l0_2 : List (S46)) (a1_0 : Int) (A1_1 : Option Addr) (c1_1 : Nat) (l1_1 : List Bool) (A1_2 : Option Addr) (c1_2 : Nat) (l1_2 : List (S46)) (r : Bool) (w : World) (hr0_1 : Kd.C Kd.bool w A0_1 l0_1.length l0_1) (hc0_1 : l0_1.length ≤ c0_1) (hr0_2 : Kd.C k46 w A0_2 l0_2.length l0_2) (hc0_2 : l0_2.length ≤ c0_2) (hr1_1 : Kd.C Kd.bool w A1_1 l1_1.length l1_1) (hc1_1 : l1_1.length ≤ c1_1) (hr1_2 : Kd.C k46 w A1_2 l1_2.length l1_2) (hc1_2 : l1_2.length ≤ c1_2) (h : impl_IsSafe.f k a0_0 l0_1 l0_2 a1_0 l1_1 l1_2 = some r) :
  Calls Try.prog 7 #[.agg #[.int .i64 a0_0, .slice A0_1 l0_1.length c0_1, .slice A0_2 l0_2.length c0_2], .agg #[.int .i64 a1_0, .slice A1_1 l1_1.length c1_1, .slice A1_2 l1_2.length c1_2]] w fun e w' => e = .returned (.bool r) ∧ Below w.heap.size w w' := by
 have hu27 := Try.underlying27
 have HR0_1 := aM hr0_1
 have HC0_1 := aM hc0_1
 clear hr0_1 hc0_1
 have HR0_2 := aM hr0_2
 have HC0_2 := aM hc0_2
 clear hr0_2 hc0_2
 have HR1_1 := aM hr1_1
 have HC1_1 := aM hc1_1
 clear hr1_1 hc1_1
 have HR1_2 := aM hr1_2
 have HC1_2 := aM hc1_2
 clear hr1_2 hc1_2
 have HB := aM (Below.refl w.heap.size w)
 have H : ((impl_IsMachine.f k a0_0 l0_1 l0_2).bind fun t477 => (if t477 = true then ((impl_IsMachine.f k a1_0 l1_1 l1_2).bind fun t478 => (if t478 = true then ((impl_FirstTrouble.f k a0_0 l0_1 l0_2 a1_0 l1_1 l1_2).bind fun t479 => (some ((t479.length : Int) == 0))) else (some false))) else (some false))) = some r := h
 clear h
 obtain ⟨t477, A3, H⟩ := bindS H
 by_cases c4 : t477 = true
 ·subst c4
  have H1 : ((impl_IsMachine.f k a1_0 l1_1 l1_2).bind fun t478 => (if t478 = true then ((impl_FirstTrouble.f k a0_0 l0_1 l0_2 a1_0 l1_1 l1_2).bind fun t479 => (some ((t479.length : Int) == 0))) else (some false))) = some r := by rw [if_pos rfl] at H; exact H
  clear H
  have H := H1
  clear H1
  obtain ⟨t478, A5, H⟩ := bindS H
  by_cases c6 : t478 = true
  ·subst c6
   have H1 : ((impl_FirstTrouble.f k a0_0 l0_1 l0_2 a1_0 l1_1 l1_2).bind fun t479 => (some ((t479.length : Int) == 0))) = some r := by rw [if_pos rfl] at H; exact H
   clear H
   have H := H1
   clear H1
   obtain ⟨t479, A7, H⟩ := bindS H
   obtain rfl := oI H
   go_enter Try.func7, Try.ntmps7
   go_wp2_with (first | ((with_reducible refine gD (N := 2) rfl ?_); (try (refine gate_guard (by rfl) ?_; dsimp only)); refine box_event ?hg (N := 2) ?hd (cs := #[.int .i64 a0_0, .slice A0_1 l0_1.length c0_1, .slice A0_2 l0_2.length c0_2]) (t := 27) ?hr ?_; (case hd => rfl); (case hg => rfl); (case hr => first | (go_simp; done) | (go_simp; rfl)); intro gb475 hg w8 hbox hb; have BK475 := aM (hbox); have GW475 := gS HB hg; have GE475 := gS HB hg; replace HB := bS HB hb; clear hb hbox hg) | ((with_reducible refine gD (N := 3) rfl ?_); (try (refine gate_guard (by rfl) ?_; dsimp only)); refine box_event ?hg (N := 3) ?hd (cs := #[.int .i64 a1_0, .slice A1_1 l1_1.length c1_1, .slice A1_2 l1_2.length c1_2]) (t := 27) ?hr ?_; (case hd => rfl); (case hg => rfl); (case hr => first | (go_simp; done) | (go_simp; rfl)); intro gb476 hg w9 hbox hb; have BK476 := aM (hbox); have GW476 := gS HB hg; have GE476 := gS HB hg; replace HB := bS HB hb; have NB475_476 := nL BK475 hg; have NB476_475 := nR BK475 hg; replace BK475 := kB BK475 hb; clear hb hbox hg; have hnb10 := NB475_476.o; have hnc10 := NB476_475.o; obtain ⟨z11_0, z11_1, z11_2, f11_0, f11_1, f11_2⟩ := bq3 BK475) | ((with_reducible refine gC (f := 10) rfl ?_); refine goesL_ (some 6) rfl rfl Try.func10 (by kernel_rfl) rfl #[.agg #[.int .i64 a0_0, .slice A0_1 l0_1.length c0_1, .slice A0_2 l0_2.length c0_2]] rfl zG ?_; (with_reducible refine (impl_IsMachine.calls k a0_0 _ _ l0_1 _ _ l0_2 true _ ?s1 ?s2 ?s3 ?s4 A3.o).mono ?_); (case s1 => exact cS HR0_1 HB); (case s2 => exact HC0_1.o); (case s3 => exact cS HR0_2 HB); (case s4 => exact HC0_2.o); rintro e w12 ⟨rfl, hb⟩; refine ⟨_, rfl, ?_⟩; replace BK475 := kB BK475 hb; replace BK476 := kB BK476 hb; replace HB := bS HB hb; (try clear hb); obtain ⟨z13_0, z13_1, z13_2, f13_0, f13_1, f13_2⟩ := bq3 BK476) | (go_at_call 10; (with_reducible refine (impl_IsMachine.calls k a1_0 _ _ l1_1 _ _ l1_2 true _ ?s1 ?s2 ?s3 ?s4 A5.o).mono ?_); (case s1 => exact cS HR1_1 HB); (case s2 => exact HC1_1.o); (case s3 => exact cS HR1_2 HB); (case s4 => exact HC1_2.o); rintro e w14 ⟨rfl, hb⟩; replace BK475 := kB BK475 hb; replace BK476 := kB BK476 hb; replace HB := bS HB hb; (try clear hb); obtain ⟨z15_0, z15_1, z15_2, f15_0, f15_1, f15_2⟩ := bq3 BK475; obtain ⟨z16_0, z16_1, z16_2, f16_0, f16_1, f16_2⟩ := bq3 BK476) | (go_at_call 8; (with_reducible refine (impl_FirstTrouble.calls k a0_0 _ _ l0_1 _ _ l0_2 a1_0 _ _ l1_1 _ _ l1_2 t479 _ ?s1 ?s2 ?s3 ?s4 ?s5 ?s6 ?s7 ?s8 A7.o).mono ?_); (case s1 => exact cS HR0_1 HB); (case s2 => exact HC0_1.o); (case s3 => exact cS HR0_2 HB); (case s4 => exact HC0_2.o); (case s5 => exact cS HR1_1 HB); (case s6 => exact HC1_1.o); (case s7 => exact cS HR1_2 HB); (case s8 => exact HC1_2.o); rintro e w17 ⟨v480, rfl, ho0, hb⟩; have HO481 := aM (rO ho0 (bZ (zB HB))); replace BK475 := kB BK475 hb; replace BK476 := kB BK476 hb; replace HB := bS HB hb; (try clear hb); (try clear ho0); obtain ⟨Ao18, co18, eo18⟩ := rL HO481.o; subst eo18))
   go_ret
   exact ⟨zE, zB HB⟩
  ·replace c6 := Bool.eq_false_iff.mpr c6
   subst c6
   have H1 : (some false) = some r := by rw [if_neg (show ¬ (false = true) by decide)] at H; exact H
   clear H
   have H := H1
   clear H1
   obtain rfl := oI H
   go_enter Try.func7, Try.ntmps7
   go_wp2_with (first | ((with_reducible refine gD (N := 2) rfl ?_); (try (refine gate_guard (by rfl) ?_; dsimp only)); refine box_event ?hg (N := 2) ?hd (cs := #[.int .i64 a0_0, .slice A0_1 l0_1.length c0_1, .slice A0_2 l0_2.length c0_2]) (t := 27) ?hr ?_; (case hd => rfl); (case hg => rfl); (case hr => first | (go_simp; done) | (go_simp; rfl)); intro gb475 hg w19 hbox hb; have BK475 := aM (hbox); have GW475 := gS HB hg; have GE475 := gS HB hg; replace HB := bS HB hb; clear hb hbox hg) | ((with_reducible refine gD (N := 3) rfl ?_); (try (refine gate_guard (by rfl) ?_; dsimp only)); refine box_event ?hg (N := 3) ?hd (cs := #[.int .i64 a1_0, .slice A1_1 l1_1.length c1_1, .slice A1_2 l1_2.length c1_2]) (t := 27) ?hr ?_; (case hd => rfl); (case hg => rfl); (case hr => first | (go_simp; done) | (go_simp; rfl)); intro gb476 hg w20 hbox hb; have BK476 := aM (hbox); have GW476 := gS HB hg; have GE476 := gS HB hg; replace HB := bS HB hb; have NB475_476 := nL BK475 hg; have NB476_475 := nR BK475 hg; replace BK475 := kB BK475 hb; clear hb hbox hg; have hnb21 := NB475_476.o; have hnc21 := NB476_475.o; obtain ⟨z22_0, z22_1, z22_2, f22_0, f22_1, f22_2⟩ := bq3 BK475) | ((with_reducible refine gC (f := 10) rfl ?_); refine goesL_ (some 6) rfl rfl Try.func10 (by kernel_rfl) rfl #[.agg #[.int .i64 a0_0, .slice A0_1 l0_1.length c0_1, .slice A0_2 l0_2.length c0_2]] rfl zG ?_; (with_reducible refine (impl_IsMachine.calls k a0_0 _ _ l0_1 _ _ l0_2 true _ ?s1 ?s2 ?s3 ?s4 A3.o).mono ?_); (case s1 => exact cS HR0_1 HB); (case s2 => exact HC0_1.o); (case s3 => exact cS HR0_2 HB); (case s4 => exact HC0_2.o); rintro e w23 ⟨rfl, hb⟩; refine ⟨_, rfl, ?_⟩; replace BK475 := kB BK475 hb; replace BK476 := kB BK476 hb; replace HB := bS HB hb; (try clear hb); obtain ⟨z24_0, z24_1, z24_2, f24_0, f24_1, f24_2⟩ := bq3 BK476) | (go_at_call 10; (with_reducible refine (impl_IsMachine.calls k a1_0 _ _ l1_1 _ _ l1_2 false _ ?s1 ?s2 ?s3 ?s4 A5.o).mono ?_); (case s1 => exact cS HR1_1 HB); (case s2 => exact HC1_1.o); (case s3 => exact cS HR1_2 HB); (case s4 => exact HC1_2.o); rintro e w25 ⟨rfl, hb⟩; replace BK475 := kB BK475 hb; replace BK476 := kB BK476 hb; replace HB := bS HB hb; (try clear hb)))
   go_ret
   exact ⟨zE, zB HB⟩
 ·replace c4 := Bool.eq_false_iff.mpr c4
  subst c4
  have H1 : (some false) = some r := by rw [if_neg (show ¬ (false = true) by decide)] at H; exact H
  clear H
  have H := H1
  clear H1
  obtain rfl := oI H
  go_enter Try.func7, Try.ntmps7
  go_wp2_with (first | ((with_reducible refine gD (N := 2) rfl ?_); (try (refine gate_guard (by rfl) ?_; dsimp only)); refine box_event ?hg (N := 2) ?hd (cs := #[.int .i64 a0_0, .slice A0_1 l0_1.length c0_1, .slice A0_2 l0_2.length c0_2]) (t := 27) ?hr ?_; (case hd => rfl); (case hg => rfl); (case hr => first | (go_simp; done) | (go_simp; rfl)); intro gb475 hg w26 hbox hb; have BK475 := aM (hbox); have GW475 := gS HB hg; have GE475 := gS HB hg; replace HB := bS HB hb; clear hb hbox hg) | ((with_reducible refine gD (N := 3) rfl ?_); (try (refine gate_guard (by rfl) ?_; dsimp only)); refine box_event ?hg (N := 3) ?hd (cs := #[.int .i64 a1_0, .slice A1_1 l1_1.length c1_1, .slice A1_2 l1_2.length c1_2]) (t := 27) ?hr ?_; (case hd => rfl); (case hg => rfl); (case hr => first | (go_simp; done) | (go_simp; rfl)); intro gb476 hg w27 hbox hb; have BK476 := aM (hbox); have GW476 := gS HB hg; have GE476 := gS HB hg; replace HB := bS HB hb; have NB475_476 := nL BK475 hg; have NB476_475 := nR BK475 hg; replace BK475 := kB BK475 hb; clear hb hbox hg; have hnb28 := NB475_476.o; have hnc28 := NB476_475.o; obtain ⟨z29_0, z29_1, z29_2, f29_0, f29_1, f29_2⟩ := bq3 BK475) | ((with_reducible refine gC (f := 10) rfl ?_); refine goesL_ (some 6) rfl rfl Try.func10 (by kernel_rfl) rfl #[.agg #[.int .i64 a0_0, .slice A0_1 l0_1.length c0_1, .slice A0_2 l0_2.length c0_2]] rfl zG ?_; (with_reducible refine (impl_IsMachine.calls k a0_0 _ _ l0_1 _ _ l0_2 false _ ?s1 ?s2 ?s3 ?s4 A3.o).mono ?_); (case s1 => exact cS HR0_1 HB); (case s2 => exact HC0_1.o); (case s3 => exact cS HR0_2 HB); (case s4 => exact HC0_2.o); rintro e w30 ⟨rfl, hb⟩; refine ⟨_, rfl, ?_⟩; replace BK475 := kB BK475 hb; replace BK476 := kB BK476 hb; replace HB := bS HB hb; (try clear hb)))
  go_ret
  exact ⟨zE, zB HB⟩

/-! ### spec_l1In: function 23 -/
def spec_l1In.f (a0 : Int) (a1 : Int) (a2 : Int) : Option (Bool) := if a0 ≥ a1 then (some (decide (a0 ≤ a2))) else (some false)
set_option maxHeartbeats 8000000 in
set_option maxRecDepth 100000 in
theorem spec_l1In.calls (a0 : Int) (a1 : Int) (a2 : Int) (r : Bool) (w : World) (h : spec_l1In.f a0 a1 a2 = some r) :
  Calls Try.prog 23 #[.int .i64 a0, .int .i64 a1, .int .i64 a2] w fun e w' => e = .returned (.bool r) ∧ Drawn0 w w' := by
 have H : (if a0 ≥ a1 then (some (decide (a0 ≤ a2))) else (some false)) = some r := h
 clear h
 by_cases c4 : a0 ≥ a1
 ·rw [if_pos c4] at H
  have c4b0 : decide (a1 ≤ a0) = true := dT c4
  clear c4
  obtain rfl := oI H
  go_enter Try.func23, Try.ntmps23
  go_wp2
  go_ret
  exact ⟨by first | rfl | (simp; done) | (simp [*]; done), by repeat (first | exact Drawn0.refl _ | apply Drawn0.step)⟩
 ·rw [if_neg c4] at H
  have c4b0 : decide (a1 ≤ a0) = false := decide_eq_false c4
  clear c4
  obtain rfl := oI H
  go_enter Try.func23, Try.ntmps23
  go_wp2
  go_ret
  exact ⟨by first | rfl | (simp; done) | (simp [*]; done), by repeat (first | exact Drawn0.refl _ | apply Drawn0.step)⟩

end Go.Proofs.Ytfibjclnaeocbaa.PFnPairs
