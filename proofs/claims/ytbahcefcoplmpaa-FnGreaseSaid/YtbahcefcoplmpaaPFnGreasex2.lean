-- WRITTEN by pp.py, this session's own wrapper around the print; not trusted: Lean checks it
import Derived.Test.YtbahcefcoplmpaaPFnGreasex0
import Derived.Test.YtbahcefcoplmpaaPFnGreasex1
namespace Go.Proofs.Ytbahcefcoplmpaa.PFnGrease
open Go.RowKit Go.Proofs.Ytbahcefcoplmpaa.Hw Go.Proofs.YtbahcefcoplmpaaW.PrintWords Go.Proofs.YtbahcefcoplmpaaW.PrintLast Go.Proofs.YtbahcefcoplmpaaW.PrintMore
attribute [local go_sem] max2_int min2_int max_two min_two max_three min_three max_four min_four   -- for this text's walks alone
set_option linter.unusedVariables false
set_option linter.unusedSimpArgs false
set_option linter.unusedSectionVars false

/-! ### impl_AreExts: function 16 -/
def impl_AreExts.l0 : Nat → List (S46) → List (S46) → Int → Int → Option (Bool)
 | 0, _, _, _, _ => none
 | k + 1, x0, x5, x6, x7 => if x7 < x6 then (if 0 ≤ x7 then (if x7 < (x5.length : Int) then ((impl_InRange.f ((rd_T46 x5 x7).f0) 0 255).bind fun t115 => (if t115 = true then (if x7 ≤ (x0.length : Int) then ((impl_ExtOf.f (x0.take (x7 : Int).toNat) ((rd_T46 x5 x7).f0)).bind fun t120 => (if t120 ≥ 0 then (some false) else (if (((rd_T46 x5 x7).f1).length : Int) > 4 then (some false) else ((impl_areNumbers.f ((rd_T46 x5 x7).f1) 0 255).bind fun t121 => (if t121 = true then (impl_AreExts.l0 k x0 x5 x6 (wrap64 (x7 + 1))) else (some false)))))) else (none)) else (some false))) else (none)) else (none)) else (some (decide ((x0.length : Int) ≤ 6)))
def impl_AreExts.f (k : Nat) (l0 : List (S46)) : Option (Bool) := impl_AreExts.l0 k l0 l0 (l0.length : Int) 0
theorem impl_AreExts.mono_l : ∀ k, (∀ y0 y1 y2 y3, LeO (impl_AreExts.l0 k y0 y1 y2 y3) (impl_AreExts.l0 (k + 1) y0 y1 y2 y3))
 | 0 => fun _ _ _ _ r h => by simp [impl_AreExts.l0] at h
 | k + 1 => by
  have ih0 := impl_AreExts.mono_l k
  ·intro y0 y1 y2 y3
   unfold impl_AreExts.l0
   repeat' first
   | (with_reducible exact ih0 _ _ _ _)
   | (with_reducible exact LeO.refl _)
   | (with_reducible exact LeO.none _)
   | (with_reducible refine LeO.ite ?_ ?_)
   | (with_reducible refine LeO.bind ?_ (fun _ => ?_))
   | exact ih0 _ _ _ _
   | exact LeO.none _
   | refine LeO.ite ?_ ?_
   | refine LeO.bind ?_ (fun _ => ?_)
theorem impl_AreExts.mono : ∀ a0 k, LeO (impl_AreExts.f k a0) (impl_AreExts.f (k + 1) a0) := by
 intro a0 k
 have ih0 := impl_AreExts.mono_l k
 unfold impl_AreExts.f
 repeat' first
   | (with_reducible exact ih0 _ _ _ _)
   | (with_reducible exact LeO.refl _)
   | (with_reducible exact LeO.none _)
   | (with_reducible refine LeO.ite ?_ ?_)
   | (with_reducible refine LeO.bind ?_ (fun _ => ?_))
   | exact ih0 _ _ _ _
   | exact LeO.none _
   | refine LeO.ite ?_ ?_
   | refine LeO.bind ?_ (fun _ => ?_)
def impl_AreExts.T4 : Bool × List (List Nat × List Nat) := (true, [([], []), ([0], [0]), ([1], [1]), ([2], [2]), ([3, 2], [3]), ([4], [4]), ([4], [4]), ([5, 6, 4], [4, 5, 6]), ([4], [4]), ([8, 4], [4, 8]), ([7, 9, 4, 4], [4, 7, 9]), ([10, 4], [4, 10]), ([4, 11], [4, 11]), ([12, 10], [12]), ([13], [13]), ([14, 13], [13, 14]), ([15, 13], [13, 15]), ([16, 13], [13, 16]), ([13, 17], [13, 17]), ([18, 13], [18]), ([19], [19]), ([20, 19], [19, 20]), ([21, 19, 19], [19, 21]), ([22, 19], [19, 22]), ([19, 23], [19, 23])])
def impl_AreExts.B4 : List Nat := [0, 1, 3, 7, 15, 31, 31, 127, 31, 287, 1023, 2047, 4095, 8191, 16383, 32767, 65535, 131071, 262143, 524287, 1048575, 2097151, 4194303, 8388607, 16777215]
theorem impl_AreExts.tab4 : rtab .any (opsOf Try.f16 4) = impl_AreExts.T4 := by kernel_rfl
theorem impl_AreExts.bits4 : waitsOk impl_AreExts.T4.2 impl_AreExts.B4 = true := by kernel_rfl
set_option maxHeartbeats 8000000 in
set_option maxRecDepth 100000 in
theorem impl_AreExts.calls (k : Nat) (A0 : Option Addr) (c0 : Nat) (l0 : List (S46)) (r : Bool) (w : World) (hr0 : Kd.C k46 w A0 l0.length l0) (hc0 : l0.length ≤ c0) (h : impl_AreExts.f k l0 = some r) :
  Calls Try.prog 16 #[.slice A0 l0.length c0] w fun e w' => e = .returned (.bool r) ∧ Below w.heap.size w w' := by
 have hu46 := Try.underlying46
 have HR0 := Aside0.mk hr0
 have HC0 := Aside0.mk hc0
 clear hr0 hc0
 have HB := Aside0.mk (Below.refl w.heap.size w)
 have H : (impl_AreExts.l0 k l0 l0 (l0.length : Int) 0) = some r := h
 clear h
 have H' := Aside0.mk H
 clear H
 go_enter Try.func16, Try.ntmps16
 go_wp2
 go_loopg [7] k (fun kq v7 w' => ∃ (x7_1 : Int), v7 = .int .i64 x7_1 ∧ Aside0 (impl_AreExts.l0 kq l0 l0 (l0.length : Int) x7_1 = some r) ∧ Aside0 (kq ≤ k) ∧ Aside0 (Below w.heap.size w w'))
 case atStart => exact ⟨(0), zF, H', ⟨Nat.le_refl _⟩, ⟨zB HB⟩⟩
 case round =>
  clear H'
  try clear c1
  obtain ⟨x7_1, rfl, HA, HK1, HB⟩ := hrel
  cases gk with
  | zero => exact absurd HA.out (by simp [impl_AreExts.l0])
  | succ k1 =>
   have H := HA.out
   clear HA
   simp only [impl_AreExts.l0] at H
   by_cases c2 : x7_1 < (l0.length : Int)
   ·rw [if_pos c2] at H
    have c2b0 : decide (x7_1 < (l0.length : Int)) = true := decide_eq_true c2
    clear c2
    obtain ⟨c3, H⟩ := ifS H
    have c3b0 : decide (0 ≤ x7_1) = true := decide_eq_true c3
    clear c3
    obtain ⟨c4, H⟩ := ifS H
    have c4b0 : decide (x7_1 < (l0.length : Int)) = true := decide_eq_true c4
    clear c4
    obtain ⟨t115, A5, H⟩ := bindS H
    by_cases c6 : t115 = true
    ·subst c6
     have H1 : (if x7_1 ≤ (l0.length : Int) then ((impl_ExtOf.f (l0.take (x7_1 : Int).toNat) ((rd_T46 l0 x7_1).f0)).bind fun t120 => (if t120 ≥ 0 then (some false) else (if (((rd_T46 l0 x7_1).f1).length : Int) > 4 then (some false) else ((impl_areNumbers.f ((rd_T46 l0 x7_1).f1) 0 255).bind fun t121 => (if t121 = true then (impl_AreExts.l0 k1 l0 l0 (l0.length : Int) (wrap64 (x7_1 + 1))) else (some false)))))) else (none)) = some r := by rw [if_pos rfl] at H; exact H
     clear H
     have H := H1
     clear H1
     have c7b0 := eq_true (zD : 0 ≤ x7_1)
     obtain ⟨c8, H⟩ := ifS H
     have c8b0 := eq_true c8
     have c8b1 : decide (x7_1 ≤ (l0.length : Int)) = true := decide_eq_true c8
     clear c8
     obtain ⟨y116, hy116⟩ : ∃ y_ : List (S46), y_ = (l0.take (x7_1 : Int).toNat) := ⟨_, rfl⟩
     replace H : ((impl_ExtOf.f y116 ((rd_T46 l0 x7_1).f0)).bind fun t120 => (if t120 ≥ 0 then (some false) else (if (((rd_T46 l0 x7_1).f1).length : Int) > 4 then (some false) else ((impl_areNumbers.f ((rd_T46 l0 x7_1).f1) 0 255).bind fun t121 => (if t121 = true then (impl_AreExts.l0 k1 l0 l0 (l0.length : Int) (wrap64 (x7_1 + 1))) else (some false)))))) = some r := by first | (rw [hy116]; with_reducible exact H) | (have H2_ := (Option.bind_some _ _).symm.trans H; rw [hy116]; with_reducible exact H2_) | (have H2_ := (Option.bind_some _ _).symm.trans H; with_reducible exact H2_) | with_reducible exact H | (rw [hy116]; exact H) | exact H
     have Ny116 := Aside0.mk hy116
     clear hy116
     obtain ⟨t120, A9, H⟩ := bindS H
     by_cases c10 : t120 ≥ 0
     ·rw [if_pos c10] at H
      have c10b0 : decide (0 ≤ t120) = true := decide_eq_true c10
      clear c10
      obtain rfl := Option.some.inj H
      have p113 : 0 ≤ (x7_1 : Int) := zD
      have q113 : x7_1 < (l0.length : Int) := zD
      obtain ⟨ad113, A113_1, c113_1, e113, hx113_0, hx113_1, hl113_1, hi113_1⟩ := at_T46 HR0.out x7_1 p113 q113
      cases e113
      replace hx113_0 := hL HB hx113_0
      replace hx113_1 := hL HB hx113_1
      have HR113_1 := Aside0.mk hi113_1
      have HC113_1 := Aside0.mk hl113_1
      clear hi113_1 hl113_1
      replace p113 := eq_true p113
      replace q113 := eq_true q113
      try go_wp2_with (first | ((with_reducible refine gate_dst (N := 4) rfl ?_); (try (refine gate_guard (by rfl) ?_; dsimp only)); refine box_event ?hg (N := 4) ?hd (cs := #[.int .i64 0, .slice none 0 0]) (t := 46) ?hr ?_; (case hd => rfl); (case hg => rfl); (case hr => first | (go_simp; done) | (go_simp; rfl)); intro gb114 hg w11 hbox hb; have BK114 := Aside0.mk (hbox); have GW114 := gS HB hg; have GE114 := gS HB hg; replace HB := bS HB hb; clear hb hbox hg; have hcz12_0 := bc0 BK114; have hcz12_1 := bc1 BK114; have hfz12_0 := bf BK114 0; have hfz12_1 := bf BK114 1))
      have n0_ : Aside0 (((w11.setCell ⟨gb114, 0, none⟩ (.int .i64 ((rd_T46 l0 x7_1).f0))).setCell ⟨gb114, 1, none⟩ (.slice A113_1 ((rd_T46 l0 x7_1).f1).length c113_1)).heap[gb114]? = some (.cells #[.int .i64 ((rd_T46 l0 x7_1).f0), .slice A113_1 ((rd_T46 l0 x7_1).f1).length c113_1] 46 (0, 0))) := ⟨by (with_reducible repeat (first | refine blk_drewN ?_ _ | refine blk_drew ?_ | refine blk_alloc ?_ _)); refine blk_put (cs := #[.int .i64 ((rd_T46 l0 x7_1).f0), .slice none 0 0]) ?_ 1 _ rfl; (with_reducible repeat (first | refine blk_drewN ?_ _ | refine blk_drew ?_ | refine blk_alloc ?_ _)); refine blk_put (cs := #[.int .i64 0, .slice none 0 0]) ?_ 0 _ rfl; (with_reducible repeat (first | refine blk_drewN ?_ _ | refine blk_drew ?_ | refine blk_alloc ?_ _)); exact BK114.out⟩
      have n1_ : Aside0 (Below w.heap.size w ((w11.setCell ⟨gb114, 0, none⟩ (.int .i64 ((rd_T46 l0 x7_1).f0))).setCell ⟨gb114, 1, none⟩ (.slice A113_1 ((rd_T46 l0 x7_1).f1).length c113_1))) := ⟨zB HB⟩
      (try clear BK114)
      (try clear HB)
      generalize ((w11.setCell ⟨gb114, 0, none⟩ (.int .i64 ((rd_T46 l0 x7_1).f0))).setCell ⟨gb114, 1, none⟩ (.slice A113_1 ((rd_T46 l0 x7_1).f1).length c113_1)) = w13 at n0_ n1_ ⊢
      have BK114 := n0_
      have HB := n1_
      clear n0_ n1_
      replace BK114 := Aside0.mk (blk_drew BK114.out)
      replace HB := Aside0.mk (below_drew1 HB.out)
      refine start_ (n := 25) (S := fun w' => w'.cell? ⟨gb114, 0, none⟩ = some (.int .i64 ((rd_T46 l0 x7_1).f0)) ∧ w'.cell? ⟨gb114, 1, none⟩ = some (.slice A113_1 ((rd_T46 l0 x7_1).f1).length c113_1)) (ds := []) (bm 25 0) (by kernel_rfl) rfl (bm0 _) ⟨bc0 BK114, bc1 BK114⟩ (fun hHeld => ?_); refine with_tabW impl_AreExts.tab4 impl_AreExts.bits4 (fun HT_ HW_ => ?_)
      generalize w13.drew = w14 at BK114 HB hHeld ⊢
      refine pU 0 (some 12) (bm 25 1) HT_ rfl rfl ?_
      refine tU 1 (some 13) (bm 25 3) HT_ HW_ rfl rfl hHeld ?_
      refine one_ (i := 2) (N := some 14) (bm 25 7) rfl rfl (one_of HT_.out (by kernel_rfl)) (by decide) (fun K hK => ?_)
      refine goes_ Try.func43 (by kernel_rfl) rfl #[.int .i64 ((rd_T46 l0 x7_1).f0), .int .i64 0, .int .i64 255] (by rfl) rfl rfl zG ?_
      with_reducible refine (impl_InRange.calls ((rd_T46 l0 x7_1).f0) 0 255 true _ A5.out).mono ?_
      rintro e w' ⟨rfl, ⟨nd, rfl⟩⟩
      refine ⟨_, rfl, ?_⟩
      have q15 : (x7_1 : Int) ≤ ((l0.length : Int) : Int) := zD
      obtain ⟨i015, hi015, _, hsz15, _⟩ := info_parts info46
      have hroom15 : l0.length ≤ c0 := HC0.out
      have hC15 : Kd.C k46 _ (some ad113) l0.length l0 := HR0.out
      have hcut15 := cut_to (P := Try.prog) 24 46 .i64 Try.underlying24 hi015 (some ad113) l0.length c0 x7_1 (zD) q15 hroom15
      have hr15 := Kd.C_take (m := (x7_1 : Int).toNat) hC15 (by omega)
      have hy15 : y116.length = (x7_1 : Int).toNat := (by rw [Ny116.out, List.length_take]; omega)
      rw [← Ny116.out] at hr15
      rw [← hy15] at hcut15
      have HR119 := Aside0.mk hr15
      have HC119 := Aside0.mk (show y116.length ≤ c0 from by omega)
      clear hr15 hC15 hroom15 hi015 hsz15
      have KY15 := Aside0.mk hy15
      clear hy15
      replace q15 := eq_true q15
      refine hK.out _ _ ⟨bc0 BK114, bc1 BK114⟩ (fun hHeld => ?_)
      clear hK K
      refine norm_ (a' := ?_) ?_ ?_
      rotate_left
      ·show Act.put _ (some 14) _ = _
       simp only [Act.put, List.setIfInBounds_toArray, List.set_cons_zero, List.set_cons_succ, i64_w, i32_w]
       rfl
      refine pU 3 (some 15) (bm 25 15) HT_ rfl rfl ?_
      refine pU 4 (some 16) (bm 25 31) HT_ rfl rfl ?_
      refine pU 5 (some 17) (bm 25 63) HT_ rfl rfl ?_
      refine pU 6 (some 18) (bm 25 127) HT_ rfl rfl ?_
      refine pU 7 (some 19) (bm 25 255) HT_ rfl rfl ?_
      refine pU 8 (some 20) (bm 25 511) HT_ rfl rfl ?_
      refine tU 9 (some 21) (bm 25 1023) HT_ HW_ rfl rfl hHeld ?_
      refine one_ (i := 10) (N := some 22) (bm 25 2047) rfl rfl (one_of HT_.out (by kernel_rfl)) (by decide) (fun K hK => ?_)
      refine goes_ Try.func20 (by kernel_rfl) rfl #[.slice (some ad113) y116.length c0, .int .i64 ((rd_T46 l0 x7_1).f0)] (by rfl) rfl rfl zG ?_
      with_reducible refine (impl_ExtOf.calls _ _ y116 ((rd_T46 l0 x7_1).f0) t120 _ ?side1 ?side2 A9.out).mono ?_
      (case side1 => repeat (first | exact (Kd.C_below HR119.out (zB HB)) | (with_reducible refine Kd.C_alloc ?_ _) | (with_reducible refine Kd.C_drewN ?_ _) | (with_reducible refine Kd.C_drew ?_)))
      (case side2 => exact HC119.out)
      rintro e w16 ⟨rfl, hb⟩
      refine ⟨_, rfl, ?_⟩
      replace BK114 := kB BK114 hb
      replace HB := bS HB hb
      (try clear hb)
      (try clear hb2)
      (try clear hk)
      (try clear hi)
      refine hK.out _ _ ⟨bc0 BK114, bc1 BK114⟩ (fun hHeld => ?_)
      clear hK K
      refine norm_ (a' := ?_) ?_ ?_
      rotate_left
      ·show Act.put _ (some 22) _ = _
       simp only [Act.put, List.setIfInBounds_toArray, List.set_cons_zero, List.set_cons_succ, i64_w, i32_w]
       rfl
      refine pU 11 (some 23) (bm 25 4095) HT_ rfl rfl ?_
      refine pU 12 (some 24) (bm 25 8191) HT_ rfl rfl ?_
      refine pU 13 (some 25) (bm 25 16383) HT_ rfl rfl ?_
      refine pV 14 (some 26) (bm 25 32767) HT_ rfl rfl ?_
      refine pV 15 (some 27) (bm 25 65535) HT_ rfl rfl ?_
      refine pV 16 (some 28) (bm 25 131071) HT_ rfl rfl ?_
      refine pV 17 (some 29) (bm 25 262143) HT_ rfl rfl ?_
      refine pU 18 (some 30) (bm 25 524287) HT_ rfl rfl ?_
      refine pU 19 (some 31) (bm 25 1048575) HT_ rfl rfl ?_
      refine pV 20 (some 32) (bm 25 2097151) HT_ rfl rfl ?_
      refine pV 21 (some 33) (bm 25 4194303) HT_ rfl rfl ?_
      refine pV 22 (some 34) (bm 25 8388607) HT_ rfl rfl ?_
      refine pV 23 (some 35) (bm 25 16777215) HT_ rfl rfl ?_
      refine pU 24 (some 36) (bm 25 33554431) HT_ rfl rfl ?_
      refine done_ (done_of HT_.out (by kernel_rfl)) ?_
      try clear hHeld
      try go_wp2
      go_ret
      exact ⟨zE, zB HB⟩
     ·rw [if_neg c10] at H
      have c10b0 : decide (0 ≤ t120) = false := decide_eq_false c10
      clear c10
      by_cases c17 : (((rd_T46 l0 x7_1).f1).length : Int) > 4
      ·rw [if_pos c17] at H
       have c17b0 : decide (4 < (((rd_T46 l0 x7_1).f1).length : Int)) = true := decide_eq_true c17
       have c17b1 : decide (4 < ((rd_T46 l0 x7_1).f1).length) = true := decide_eq_true (by omega)
       clear c17
       obtain rfl := Option.some.inj H
       have p113 : 0 ≤ (x7_1 : Int) := zD
       have q113 : x7_1 < (l0.length : Int) := zD
       obtain ⟨ad113, A113_1, c113_1, e113, hx113_0, hx113_1, hl113_1, hi113_1⟩ := at_T46 HR0.out x7_1 p113 q113
       cases e113
       replace hx113_0 := hL HB hx113_0
       replace hx113_1 := hL HB hx113_1
       have HR113_1 := Aside0.mk hi113_1
       have HC113_1 := Aside0.mk hl113_1
       clear hi113_1 hl113_1
       replace p113 := eq_true p113
       replace q113 := eq_true q113
       try go_wp2_with (first | ((with_reducible refine gate_dst (N := 4) rfl ?_); (try (refine gate_guard (by rfl) ?_; dsimp only)); refine box_event ?hg (N := 4) ?hd (cs := #[.int .i64 0, .slice none 0 0]) (t := 46) ?hr ?_; (case hd => rfl); (case hg => rfl); (case hr => first | (go_simp; done) | (go_simp; rfl)); intro gb114 hg w18 hbox hb; have BK114 := Aside0.mk (hbox); have GW114 := gS HB hg; have GE114 := gS HB hg; replace HB := bS HB hb; clear hb hbox hg; have hcz19_0 := bc0 BK114; have hcz19_1 := bc1 BK114; have hfz19_0 := bf BK114 0; have hfz19_1 := bf BK114 1))
       have n0_ : Aside0 (((w18.setCell ⟨gb114, 0, none⟩ (.int .i64 ((rd_T46 l0 x7_1).f0))).setCell ⟨gb114, 1, none⟩ (.slice A113_1 ((rd_T46 l0 x7_1).f1).length c113_1)).heap[gb114]? = some (.cells #[.int .i64 ((rd_T46 l0 x7_1).f0), .slice A113_1 ((rd_T46 l0 x7_1).f1).length c113_1] 46 (0, 0))) := ⟨by (with_reducible repeat (first | refine blk_drewN ?_ _ | refine blk_drew ?_ | refine blk_alloc ?_ _)); refine blk_put (cs := #[.int .i64 ((rd_T46 l0 x7_1).f0), .slice none 0 0]) ?_ 1 _ rfl; (with_reducible repeat (first | refine blk_drewN ?_ _ | refine blk_drew ?_ | refine blk_alloc ?_ _)); refine blk_put (cs := #[.int .i64 0, .slice none 0 0]) ?_ 0 _ rfl; (with_reducible repeat (first | refine blk_drewN ?_ _ | refine blk_drew ?_ | refine blk_alloc ?_ _)); exact BK114.out⟩
       have n1_ : Aside0 (Below w.heap.size w ((w18.setCell ⟨gb114, 0, none⟩ (.int .i64 ((rd_T46 l0 x7_1).f0))).setCell ⟨gb114, 1, none⟩ (.slice A113_1 ((rd_T46 l0 x7_1).f1).length c113_1))) := ⟨zB HB⟩
       (try clear BK114)
       (try clear HB)
       generalize ((w18.setCell ⟨gb114, 0, none⟩ (.int .i64 ((rd_T46 l0 x7_1).f0))).setCell ⟨gb114, 1, none⟩ (.slice A113_1 ((rd_T46 l0 x7_1).f1).length c113_1)) = w20 at n0_ n1_ ⊢
       have BK114 := n0_
       have HB := n1_
       clear n0_ n1_
       replace BK114 := Aside0.mk (blk_drew BK114.out)
       replace HB := Aside0.mk (below_drew1 HB.out)
       refine start_ (n := 25) (S := fun w' => w'.cell? ⟨gb114, 0, none⟩ = some (.int .i64 ((rd_T46 l0 x7_1).f0)) ∧ w'.cell? ⟨gb114, 1, none⟩ = some (.slice A113_1 ((rd_T46 l0 x7_1).f1).length c113_1)) (ds := []) (bm 25 0) (by kernel_rfl) rfl (bm0 _) ⟨bc0 BK114, bc1 BK114⟩ (fun hHeld => ?_); refine with_tabW impl_AreExts.tab4 impl_AreExts.bits4 (fun HT_ HW_ => ?_)
       generalize w20.drew = w21 at BK114 HB hHeld ⊢
       refine pU 0 (some 12) (bm 25 1) HT_ rfl rfl ?_
       refine tU 1 (some 13) (bm 25 3) HT_ HW_ rfl rfl hHeld ?_
       refine one_ (i := 2) (N := some 14) (bm 25 7) rfl rfl (one_of HT_.out (by kernel_rfl)) (by decide) (fun K hK => ?_)
       refine goes_ Try.func43 (by kernel_rfl) rfl #[.int .i64 ((rd_T46 l0 x7_1).f0), .int .i64 0, .int .i64 255] (by rfl) rfl rfl zG ?_
       with_reducible refine (impl_InRange.calls ((rd_T46 l0 x7_1).f0) 0 255 true _ A5.out).mono ?_
       rintro e w' ⟨rfl, ⟨nd, rfl⟩⟩
       refine ⟨_, rfl, ?_⟩
       have q22 : (x7_1 : Int) ≤ ((l0.length : Int) : Int) := zD
       obtain ⟨i022, hi022, _, hsz22, _⟩ := info_parts info46
       have hroom22 : l0.length ≤ c0 := HC0.out
       have hC22 : Kd.C k46 _ (some ad113) l0.length l0 := HR0.out
       have hcut22 := cut_to (P := Try.prog) 24 46 .i64 Try.underlying24 hi022 (some ad113) l0.length c0 x7_1 (zD) q22 hroom22
       have hr22 := Kd.C_take (m := (x7_1 : Int).toNat) hC22 (by omega)
       have hy22 : y116.length = (x7_1 : Int).toNat := (by rw [Ny116.out, List.length_take]; omega)
       rw [← Ny116.out] at hr22
       rw [← hy22] at hcut22
       have HR119 := Aside0.mk hr22
       have HC119 := Aside0.mk (show y116.length ≤ c0 from by omega)
       clear hr22 hC22 hroom22 hi022 hsz22
       have KY22 := Aside0.mk hy22
       clear hy22
       replace q22 := eq_true q22
       refine hK.out _ _ ⟨bc0 BK114, bc1 BK114⟩ (fun hHeld => ?_)
       clear hK K
       refine norm_ (a' := ?_) ?_ ?_
       rotate_left
       ·show Act.put _ (some 14) _ = _
        simp only [Act.put, List.setIfInBounds_toArray, List.set_cons_zero, List.set_cons_succ, i64_w, i32_w]
        rfl
       refine pU 3 (some 15) (bm 25 15) HT_ rfl rfl ?_
       refine pU 4 (some 16) (bm 25 31) HT_ rfl rfl ?_
       refine pU 5 (some 17) (bm 25 63) HT_ rfl rfl ?_
       refine pU 6 (some 18) (bm 25 127) HT_ rfl rfl ?_
       refine pU 7 (some 19) (bm 25 255) HT_ rfl rfl ?_
       refine pU 8 (some 20) (bm 25 511) HT_ rfl rfl ?_
       refine tU 9 (some 21) (bm 25 1023) HT_ HW_ rfl rfl hHeld ?_
       refine one_ (i := 10) (N := some 22) (bm 25 2047) rfl rfl (one_of HT_.out (by kernel_rfl)) (by decide) (fun K hK => ?_)
       refine goes_ Try.func20 (by kernel_rfl) rfl #[.slice (some ad113) y116.length c0, .int .i64 ((rd_T46 l0 x7_1).f0)] (by rfl) rfl rfl zG ?_
       with_reducible refine (impl_ExtOf.calls _ _ y116 ((rd_T46 l0 x7_1).f0) t120 _ ?side1 ?side2 A9.out).mono ?_
       (case side1 => repeat (first | exact (Kd.C_below HR119.out (zB HB)) | (with_reducible refine Kd.C_alloc ?_ _) | (with_reducible refine Kd.C_drewN ?_ _) | (with_reducible refine Kd.C_drew ?_)))
       (case side2 => exact HC119.out)
       rintro e w23 ⟨rfl, hb⟩
       refine ⟨_, rfl, ?_⟩
       replace BK114 := kB BK114 hb
       replace HB := bS HB hb
       (try clear hb)
       (try clear hb2)
       (try clear hk)
       (try clear hi)
       refine hK.out _ _ ⟨bc0 BK114, bc1 BK114⟩ (fun hHeld => ?_)
       clear hK K
       refine norm_ (a' := ?_) ?_ ?_
       rotate_left
       ·show Act.put _ (some 22) _ = _
        simp only [Act.put, List.setIfInBounds_toArray, List.set_cons_zero, List.set_cons_succ, i64_w, i32_w]
        rfl
       refine pU 11 (some 23) (bm 25 4095) HT_ rfl rfl ?_
       refine pU 12 (some 24) (bm 25 8191) HT_ rfl rfl ?_
       refine pU 13 (some 25) (bm 25 16383) HT_ rfl rfl ?_
       refine pU 14 (some 26) (bm 25 32767) HT_ rfl rfl ?_
       refine tU 15 (some 27) (bm 25 65535) HT_ HW_ rfl rfl hHeld ?_
       refine pU 16 (some 28) (bm 25 131071) HT_ rfl rfl ?_
       refine pU 17 (some 29) (bm 25 262143) HT_ rfl rfl ?_
       refine pU 18 (some 30) (bm 25 524287) HT_ rfl rfl ?_
       refine pU 19 (some 31) (bm 25 1048575) HT_ rfl rfl ?_
       refine pV 20 (some 32) (bm 25 2097151) HT_ rfl rfl ?_
       refine pV 21 (some 33) (bm 25 4194303) HT_ rfl rfl ?_
       refine pV 22 (some 34) (bm 25 8388607) HT_ rfl rfl ?_
       refine pV 23 (some 35) (bm 25 16777215) HT_ rfl rfl ?_
       refine pU 24 (some 36) (bm 25 33554431) HT_ rfl rfl ?_
       refine done_ (done_of HT_.out (by kernel_rfl)) ?_
       try clear hHeld
       try go_wp2
       go_ret
       exact ⟨zE, zB HB⟩
      ·rw [if_neg c17] at H
       have c17b0 : decide (4 < (((rd_T46 l0 x7_1).f1).length : Int)) = false := decide_eq_false c17
       have c17b1 : decide (4 < ((rd_T46 l0 x7_1).f1).length) = false := decide_eq_false (by omega)
       clear c17
       obtain ⟨t121, A24, H⟩ := bindS H
       by_cases c25 : t121 = true
       ·subst c25
        have H1 : (impl_AreExts.l0 k1 l0 l0 (l0.length : Int) (wrap64 (x7_1 + 1))) = some r := by rw [if_pos rfl] at H; exact H
        clear H
        have H := H1
        clear H1
        have H' := Aside0.mk H
        clear H
        have p113 : 0 ≤ (x7_1 : Int) := zD
        have q113 : x7_1 < (l0.length : Int) := zD
        obtain ⟨ad113, A113_1, c113_1, e113, hx113_0, hx113_1, hl113_1, hi113_1⟩ := at_T46 HR0.out x7_1 p113 q113
        cases e113
        replace hx113_0 := hL HB hx113_0
        replace hx113_1 := hL HB hx113_1
        have HR113_1 := Aside0.mk hi113_1
        have HC113_1 := Aside0.mk hl113_1
        clear hi113_1 hl113_1
        replace p113 := eq_true p113
        replace q113 := eq_true q113
        try go_wp2_with (first | ((with_reducible refine gate_dst (N := 4) rfl ?_); (try (refine gate_guard (by rfl) ?_; dsimp only)); refine box_event ?hg (N := 4) ?hd (cs := #[.int .i64 0, .slice none 0 0]) (t := 46) ?hr ?_; (case hd => rfl); (case hg => rfl); (case hr => first | (go_simp; done) | (go_simp; rfl)); intro gb114 hg w26 hbox hb; have BK114 := Aside0.mk (hbox); have GW114 := gS HB hg; have GE114 := gS HB hg; replace HB := bS HB hb; clear hb hbox hg; have hcz27_0 := bc0 BK114; have hcz27_1 := bc1 BK114; have hfz27_0 := bf BK114 0; have hfz27_1 := bf BK114 1))
        have n0_ : Aside0 (((w26.setCell ⟨gb114, 0, none⟩ (.int .i64 ((rd_T46 l0 x7_1).f0))).setCell ⟨gb114, 1, none⟩ (.slice A113_1 ((rd_T46 l0 x7_1).f1).length c113_1)).heap[gb114]? = some (.cells #[.int .i64 ((rd_T46 l0 x7_1).f0), .slice A113_1 ((rd_T46 l0 x7_1).f1).length c113_1] 46 (0, 0))) := ⟨by (with_reducible repeat (first | refine blk_drewN ?_ _ | refine blk_drew ?_ | refine blk_alloc ?_ _)); refine blk_put (cs := #[.int .i64 ((rd_T46 l0 x7_1).f0), .slice none 0 0]) ?_ 1 _ rfl; (with_reducible repeat (first | refine blk_drewN ?_ _ | refine blk_drew ?_ | refine blk_alloc ?_ _)); refine blk_put (cs := #[.int .i64 0, .slice none 0 0]) ?_ 0 _ rfl; (with_reducible repeat (first | refine blk_drewN ?_ _ | refine blk_drew ?_ | refine blk_alloc ?_ _)); exact BK114.out⟩
        have n1_ : Aside0 (Below w.heap.size w ((w26.setCell ⟨gb114, 0, none⟩ (.int .i64 ((rd_T46 l0 x7_1).f0))).setCell ⟨gb114, 1, none⟩ (.slice A113_1 ((rd_T46 l0 x7_1).f1).length c113_1))) := ⟨zB HB⟩
        (try clear BK114)
        (try clear HB)
        generalize ((w26.setCell ⟨gb114, 0, none⟩ (.int .i64 ((rd_T46 l0 x7_1).f0))).setCell ⟨gb114, 1, none⟩ (.slice A113_1 ((rd_T46 l0 x7_1).f1).length c113_1)) = w28 at n0_ n1_ ⊢
        have BK114 := n0_
        have HB := n1_
        clear n0_ n1_
        replace BK114 := Aside0.mk (blk_drew BK114.out)
        replace HB := Aside0.mk (below_drew1 HB.out)
        refine start_ (n := 25) (S := fun w' => w'.cell? ⟨gb114, 0, none⟩ = some (.int .i64 ((rd_T46 l0 x7_1).f0)) ∧ w'.cell? ⟨gb114, 1, none⟩ = some (.slice A113_1 ((rd_T46 l0 x7_1).f1).length c113_1)) (ds := []) (bm 25 0) (by kernel_rfl) rfl (bm0 _) ⟨bc0 BK114, bc1 BK114⟩ (fun hHeld => ?_); refine with_tabW impl_AreExts.tab4 impl_AreExts.bits4 (fun HT_ HW_ => ?_)
        generalize w28.drew = w29 at BK114 HB hHeld ⊢
        refine pU 0 (some 12) (bm 25 1) HT_ rfl rfl ?_
        refine tU 1 (some 13) (bm 25 3) HT_ HW_ rfl rfl hHeld ?_
        refine one_ (i := 2) (N := some 14) (bm 25 7) rfl rfl (one_of HT_.out (by kernel_rfl)) (by decide) (fun K hK => ?_)
        refine goes_ Try.func43 (by kernel_rfl) rfl #[.int .i64 ((rd_T46 l0 x7_1).f0), .int .i64 0, .int .i64 255] (by rfl) rfl rfl zG ?_
        with_reducible refine (impl_InRange.calls ((rd_T46 l0 x7_1).f0) 0 255 true _ A5.out).mono ?_
        rintro e w' ⟨rfl, ⟨nd, rfl⟩⟩
        refine ⟨_, rfl, ?_⟩
        have q30 : (x7_1 : Int) ≤ ((l0.length : Int) : Int) := zD
        obtain ⟨i030, hi030, _, hsz30, _⟩ := info_parts info46
        have hroom30 : l0.length ≤ c0 := HC0.out
        have hC30 : Kd.C k46 _ (some ad113) l0.length l0 := HR0.out
        have hcut30 := cut_to (P := Try.prog) 24 46 .i64 Try.underlying24 hi030 (some ad113) l0.length c0 x7_1 (zD) q30 hroom30
        have hr30 := Kd.C_take (m := (x7_1 : Int).toNat) hC30 (by omega)
        have hy30 : y116.length = (x7_1 : Int).toNat := (by rw [Ny116.out, List.length_take]; omega)
        rw [← Ny116.out] at hr30
        rw [← hy30] at hcut30
        have HR119 := Aside0.mk hr30
        have HC119 := Aside0.mk (show y116.length ≤ c0 from by omega)
        clear hr30 hC30 hroom30 hi030 hsz30
        have KY30 := Aside0.mk hy30
        clear hy30
        replace q30 := eq_true q30
        refine hK.out _ _ ⟨bc0 BK114, bc1 BK114⟩ (fun hHeld => ?_)
        clear hK K
        refine norm_ (a' := ?_) ?_ ?_
        rotate_left
        ·show Act.put _ (some 14) _ = _
         simp only [Act.put, List.setIfInBounds_toArray, List.set_cons_zero, List.set_cons_succ, i64_w, i32_w]
         rfl
        refine pU 3 (some 15) (bm 25 15) HT_ rfl rfl ?_
        refine pU 4 (some 16) (bm 25 31) HT_ rfl rfl ?_
        refine pU 5 (some 17) (bm 25 63) HT_ rfl rfl ?_
        refine pU 6 (some 18) (bm 25 127) HT_ rfl rfl ?_
        refine pU 7 (some 19) (bm 25 255) HT_ rfl rfl ?_
        refine pU 8 (some 20) (bm 25 511) HT_ rfl rfl ?_
        refine tU 9 (some 21) (bm 25 1023) HT_ HW_ rfl rfl hHeld ?_
        refine one_ (i := 10) (N := some 22) (bm 25 2047) rfl rfl (one_of HT_.out (by kernel_rfl)) (by decide) (fun K hK => ?_)
        refine goes_ Try.func20 (by kernel_rfl) rfl #[.slice (some ad113) y116.length c0, .int .i64 ((rd_T46 l0 x7_1).f0)] (by rfl) rfl rfl zG ?_
        with_reducible refine (impl_ExtOf.calls _ _ y116 ((rd_T46 l0 x7_1).f0) t120 _ ?side1 ?side2 A9.out).mono ?_
        (case side1 => repeat (first | exact (Kd.C_below HR119.out (zB HB)) | (with_reducible refine Kd.C_alloc ?_ _) | (with_reducible refine Kd.C_drewN ?_ _) | (with_reducible refine Kd.C_drew ?_)))
        (case side2 => exact HC119.out)
        rintro e w31 ⟨rfl, hb⟩
        refine ⟨_, rfl, ?_⟩
        replace BK114 := kB BK114 hb
        replace HB := bS HB hb
        (try clear hb)
        (try clear hb2)
        (try clear hk)
        (try clear hi)
        refine hK.out _ _ ⟨bc0 BK114, bc1 BK114⟩ (fun hHeld => ?_)
        clear hK K
        refine norm_ (a' := ?_) ?_ ?_
        rotate_left
        ·show Act.put _ (some 22) _ = _
         simp only [Act.put, List.setIfInBounds_toArray, List.set_cons_zero, List.set_cons_succ, i64_w, i32_w]
         rfl
        refine pU 11 (some 23) (bm 25 4095) HT_ rfl rfl ?_
        refine pU 12 (some 24) (bm 25 8191) HT_ rfl rfl ?_
        refine pU 13 (some 25) (bm 25 16383) HT_ rfl rfl ?_
        refine pU 14 (some 26) (bm 25 32767) HT_ rfl rfl ?_
        refine tU 15 (some 27) (bm 25 65535) HT_ HW_ rfl rfl hHeld ?_
        refine pU 16 (some 28) (bm 25 131071) HT_ rfl rfl ?_
        refine pU 17 (some 29) (bm 25 262143) HT_ rfl rfl ?_
        refine pU 18 (some 30) (bm 25 524287) HT_ rfl rfl ?_
        refine pU 19 (some 31) (bm 25 1048575) HT_ rfl rfl ?_
        refine pU 20 (some 32) (bm 25 2097151) HT_ rfl rfl ?_
        refine tU 21 (some 33) (bm 25 4194303) HT_ HW_ rfl rfl hHeld ?_
        refine one_ (i := 22) (N := some 34) (bm 25 8388607) rfl rfl (one_of HT_.out (by kernel_rfl)) (by decide) (fun K hK => ?_)
        refine goes_ Try.func44 (by kernel_rfl) rfl #[.slice A113_1 ((rd_T46 l0 x7_1).f1).length c113_1, .int .i64 0, .int .i64 255] (by rfl) rfl rfl zG ?_
        with_reducible refine (impl_areNumbers.calls _ _ ((rd_T46 l0 x7_1).f1) 0 255 true _ ?side1 ?side2 A24.out).mono ?_
        (case side1 => exact cS HR113_1 HB)
        (case side2 => exact HC113_1.out)
        rintro e w32 ⟨rfl, hb⟩
        refine ⟨_, rfl, ?_⟩
        replace BK114 := kB BK114 hb
        replace HB := bS HB hb
        (try clear hb)
        (try clear hb2)
        (try clear hk)
        (try clear hi)
        refine hK.out _ _ ⟨bc0 BK114, bc1 BK114⟩ (fun hHeld => ?_)
        clear hK K
        refine norm_ (a' := ?_) ?_ ?_
        rotate_left
        ·show Act.put _ (some 34) _ = _
         simp only [Act.put, List.setIfInBounds_toArray, List.set_cons_zero, List.set_cons_succ, i64_w, i32_w]
         rfl
        refine pU 23 (some 35) (bm 25 16777215) HT_ rfl rfl ?_
        refine pU 24 (some 36) (bm 25 33554431) HT_ rfl rfl ?_
        refine done_ (done_of HT_.out (by kernel_rfl)) ?_
        try clear hHeld
        try go_wp2
        go_roundg k1
        case measure => have := HK1.out; omega
        case rel => exact ⟨(wrap64 (x7_1 + 1)), zF, H', ⟨by have := HK1.out; omega⟩, ⟨zB HB⟩⟩
       ·replace c25 := Bool.eq_false_iff.mpr c25
        subst c25
        have H1 : (some false) = some r := by rw [if_neg (show ¬ (false = true) by decide)] at H; exact H
        clear H
        have H := H1
        clear H1
        obtain rfl := Option.some.inj H
        have p113 : 0 ≤ (x7_1 : Int) := zD
        have q113 : x7_1 < (l0.length : Int) := zD
        obtain ⟨ad113, A113_1, c113_1, e113, hx113_0, hx113_1, hl113_1, hi113_1⟩ := at_T46 HR0.out x7_1 p113 q113
        cases e113
        replace hx113_0 := hL HB hx113_0
        replace hx113_1 := hL HB hx113_1
        have HR113_1 := Aside0.mk hi113_1
        have HC113_1 := Aside0.mk hl113_1
        clear hi113_1 hl113_1
        replace p113 := eq_true p113
        replace q113 := eq_true q113
        try go_wp2_with (first | ((with_reducible refine gate_dst (N := 4) rfl ?_); (try (refine gate_guard (by rfl) ?_; dsimp only)); refine box_event ?hg (N := 4) ?hd (cs := #[.int .i64 0, .slice none 0 0]) (t := 46) ?hr ?_; (case hd => rfl); (case hg => rfl); (case hr => first | (go_simp; done) | (go_simp; rfl)); intro gb114 hg w33 hbox hb; have BK114 := Aside0.mk (hbox); have GW114 := gS HB hg; have GE114 := gS HB hg; replace HB := bS HB hb; clear hb hbox hg; have hcz34_0 := bc0 BK114; have hcz34_1 := bc1 BK114; have hfz34_0 := bf BK114 0; have hfz34_1 := bf BK114 1))
        have n0_ : Aside0 (((w33.setCell ⟨gb114, 0, none⟩ (.int .i64 ((rd_T46 l0 x7_1).f0))).setCell ⟨gb114, 1, none⟩ (.slice A113_1 ((rd_T46 l0 x7_1).f1).length c113_1)).heap[gb114]? = some (.cells #[.int .i64 ((rd_T46 l0 x7_1).f0), .slice A113_1 ((rd_T46 l0 x7_1).f1).length c113_1] 46 (0, 0))) := ⟨by (with_reducible repeat (first | refine blk_drewN ?_ _ | refine blk_drew ?_ | refine blk_alloc ?_ _)); refine blk_put (cs := #[.int .i64 ((rd_T46 l0 x7_1).f0), .slice none 0 0]) ?_ 1 _ rfl; (with_reducible repeat (first | refine blk_drewN ?_ _ | refine blk_drew ?_ | refine blk_alloc ?_ _)); refine blk_put (cs := #[.int .i64 0, .slice none 0 0]) ?_ 0 _ rfl; (with_reducible repeat (first | refine blk_drewN ?_ _ | refine blk_drew ?_ | refine blk_alloc ?_ _)); exact BK114.out⟩
        have n1_ : Aside0 (Below w.heap.size w ((w33.setCell ⟨gb114, 0, none⟩ (.int .i64 ((rd_T46 l0 x7_1).f0))).setCell ⟨gb114, 1, none⟩ (.slice A113_1 ((rd_T46 l0 x7_1).f1).length c113_1))) := ⟨zB HB⟩
        (try clear BK114)
        (try clear HB)
        generalize ((w33.setCell ⟨gb114, 0, none⟩ (.int .i64 ((rd_T46 l0 x7_1).f0))).setCell ⟨gb114, 1, none⟩ (.slice A113_1 ((rd_T46 l0 x7_1).f1).length c113_1)) = w35 at n0_ n1_ ⊢
        have BK114 := n0_
        have HB := n1_
        clear n0_ n1_
        replace BK114 := Aside0.mk (blk_drew BK114.out)
        replace HB := Aside0.mk (below_drew1 HB.out)
        refine start_ (n := 25) (S := fun w' => w'.cell? ⟨gb114, 0, none⟩ = some (.int .i64 ((rd_T46 l0 x7_1).f0)) ∧ w'.cell? ⟨gb114, 1, none⟩ = some (.slice A113_1 ((rd_T46 l0 x7_1).f1).length c113_1)) (ds := []) (bm 25 0) (by kernel_rfl) rfl (bm0 _) ⟨bc0 BK114, bc1 BK114⟩ (fun hHeld => ?_); refine with_tabW impl_AreExts.tab4 impl_AreExts.bits4 (fun HT_ HW_ => ?_)
        generalize w35.drew = w36 at BK114 HB hHeld ⊢
        refine pU 0 (some 12) (bm 25 1) HT_ rfl rfl ?_
        refine tU 1 (some 13) (bm 25 3) HT_ HW_ rfl rfl hHeld ?_
        refine one_ (i := 2) (N := some 14) (bm 25 7) rfl rfl (one_of HT_.out (by kernel_rfl)) (by decide) (fun K hK => ?_)
        refine goes_ Try.func43 (by kernel_rfl) rfl #[.int .i64 ((rd_T46 l0 x7_1).f0), .int .i64 0, .int .i64 255] (by rfl) rfl rfl zG ?_
        with_reducible refine (impl_InRange.calls ((rd_T46 l0 x7_1).f0) 0 255 true _ A5.out).mono ?_
        rintro e w' ⟨rfl, ⟨nd, rfl⟩⟩
        refine ⟨_, rfl, ?_⟩
        have q37 : (x7_1 : Int) ≤ ((l0.length : Int) : Int) := zD
        obtain ⟨i037, hi037, _, hsz37, _⟩ := info_parts info46
        have hroom37 : l0.length ≤ c0 := HC0.out
        have hC37 : Kd.C k46 _ (some ad113) l0.length l0 := HR0.out
        have hcut37 := cut_to (P := Try.prog) 24 46 .i64 Try.underlying24 hi037 (some ad113) l0.length c0 x7_1 (zD) q37 hroom37
        have hr37 := Kd.C_take (m := (x7_1 : Int).toNat) hC37 (by omega)
        have hy37 : y116.length = (x7_1 : Int).toNat := (by rw [Ny116.out, List.length_take]; omega)
        rw [← Ny116.out] at hr37
        rw [← hy37] at hcut37
        have HR119 := Aside0.mk hr37
        have HC119 := Aside0.mk (show y116.length ≤ c0 from by omega)
        clear hr37 hC37 hroom37 hi037 hsz37
        have KY37 := Aside0.mk hy37
        clear hy37
        replace q37 := eq_true q37
        refine hK.out _ _ ⟨bc0 BK114, bc1 BK114⟩ (fun hHeld => ?_)
        clear hK K
        refine norm_ (a' := ?_) ?_ ?_
        rotate_left
        ·show Act.put _ (some 14) _ = _
         simp only [Act.put, List.setIfInBounds_toArray, List.set_cons_zero, List.set_cons_succ, i64_w, i32_w]
         rfl
        refine pU 3 (some 15) (bm 25 15) HT_ rfl rfl ?_
        refine pU 4 (some 16) (bm 25 31) HT_ rfl rfl ?_
        refine pU 5 (some 17) (bm 25 63) HT_ rfl rfl ?_
        refine pU 6 (some 18) (bm 25 127) HT_ rfl rfl ?_
        refine pU 7 (some 19) (bm 25 255) HT_ rfl rfl ?_
        refine pU 8 (some 20) (bm 25 511) HT_ rfl rfl ?_
        refine tU 9 (some 21) (bm 25 1023) HT_ HW_ rfl rfl hHeld ?_
        refine one_ (i := 10) (N := some 22) (bm 25 2047) rfl rfl (one_of HT_.out (by kernel_rfl)) (by decide) (fun K hK => ?_)
        refine goes_ Try.func20 (by kernel_rfl) rfl #[.slice (some ad113) y116.length c0, .int .i64 ((rd_T46 l0 x7_1).f0)] (by rfl) rfl rfl zG ?_
        with_reducible refine (impl_ExtOf.calls _ _ y116 ((rd_T46 l0 x7_1).f0) t120 _ ?side1 ?side2 A9.out).mono ?_
        (case side1 => repeat (first | exact (Kd.C_below HR119.out (zB HB)) | (with_reducible refine Kd.C_alloc ?_ _) | (with_reducible refine Kd.C_drewN ?_ _) | (with_reducible refine Kd.C_drew ?_)))
        (case side2 => exact HC119.out)
        rintro e w38 ⟨rfl, hb⟩
        refine ⟨_, rfl, ?_⟩
        replace BK114 := kB BK114 hb
        replace HB := bS HB hb
        (try clear hb)
        (try clear hb2)
        (try clear hk)
        (try clear hi)
        refine hK.out _ _ ⟨bc0 BK114, bc1 BK114⟩ (fun hHeld => ?_)
        clear hK K
        refine norm_ (a' := ?_) ?_ ?_
        rotate_left
        ·show Act.put _ (some 22) _ = _
         simp only [Act.put, List.setIfInBounds_toArray, List.set_cons_zero, List.set_cons_succ, i64_w, i32_w]
         rfl
        refine pU 11 (some 23) (bm 25 4095) HT_ rfl rfl ?_
        refine pU 12 (some 24) (bm 25 8191) HT_ rfl rfl ?_
        refine pU 13 (some 25) (bm 25 16383) HT_ rfl rfl ?_
        refine pU 14 (some 26) (bm 25 32767) HT_ rfl rfl ?_
        refine tU 15 (some 27) (bm 25 65535) HT_ HW_ rfl rfl hHeld ?_
        refine pU 16 (some 28) (bm 25 131071) HT_ rfl rfl ?_
        refine pU 17 (some 29) (bm 25 262143) HT_ rfl rfl ?_
        refine pU 18 (some 30) (bm 25 524287) HT_ rfl rfl ?_
        refine pU 19 (some 31) (bm 25 1048575) HT_ rfl rfl ?_
        refine pU 20 (some 32) (bm 25 2097151) HT_ rfl rfl ?_
        refine tU 21 (some 33) (bm 25 4194303) HT_ HW_ rfl rfl hHeld ?_
        refine one_ (i := 22) (N := some 34) (bm 25 8388607) rfl rfl (one_of HT_.out (by kernel_rfl)) (by decide) (fun K hK => ?_)
        refine goes_ Try.func44 (by kernel_rfl) rfl #[.slice A113_1 ((rd_T46 l0 x7_1).f1).length c113_1, .int .i64 0, .int .i64 255] (by rfl) rfl rfl zG ?_
        with_reducible refine (impl_areNumbers.calls _ _ ((rd_T46 l0 x7_1).f1) 0 255 false _ ?side1 ?side2 A24.out).mono ?_
        (case side1 => exact cS HR113_1 HB)
        (case side2 => exact HC113_1.out)
        rintro e w39 ⟨rfl, hb⟩
        refine ⟨_, rfl, ?_⟩
        replace BK114 := kB BK114 hb
        replace HB := bS HB hb
        (try clear hb)
        (try clear hb2)
        (try clear hk)
        (try clear hi)
        refine hK.out _ _ ⟨bc0 BK114, bc1 BK114⟩ (fun hHeld => ?_)
        clear hK K
        refine norm_ (a' := ?_) ?_ ?_
        rotate_left
        ·show Act.put _ (some 34) _ = _
         simp only [Act.put, List.setIfInBounds_toArray, List.set_cons_zero, List.set_cons_succ, i64_w, i32_w]
         rfl
        refine pU 23 (some 35) (bm 25 16777215) HT_ rfl rfl ?_
        refine pU 24 (some 36) (bm 25 33554431) HT_ rfl rfl ?_
        refine done_ (done_of HT_.out (by kernel_rfl)) ?_
        try clear hHeld
        try go_wp2
        go_ret
        exact ⟨zE, zB HB⟩
    ·replace c6 := Bool.eq_false_iff.mpr c6
     subst c6
     have H1 : (some false) = some r := by rw [if_neg (show ¬ (false = true) by decide)] at H; exact H
     clear H
     have H := H1
     clear H1
     obtain rfl := Option.some.inj H
     have p113 : 0 ≤ (x7_1 : Int) := zD
     have q113 : x7_1 < (l0.length : Int) := zD
     obtain ⟨ad113, A113_1, c113_1, e113, hx113_0, hx113_1, hl113_1, hi113_1⟩ := at_T46 HR0.out x7_1 p113 q113
     cases e113
     replace hx113_0 := hL HB hx113_0
     replace hx113_1 := hL HB hx113_1
     have HR113_1 := Aside0.mk hi113_1
     have HC113_1 := Aside0.mk hl113_1
     clear hi113_1 hl113_1
     replace p113 := eq_true p113
     replace q113 := eq_true q113
     try go_wp2_with (first | ((with_reducible refine gate_dst (N := 4) rfl ?_); (try (refine gate_guard (by rfl) ?_; dsimp only)); refine box_event ?hg (N := 4) ?hd (cs := #[.int .i64 0, .slice none 0 0]) (t := 46) ?hr ?_; (case hd => rfl); (case hg => rfl); (case hr => first | (go_simp; done) | (go_simp; rfl)); intro gb114 hg w40 hbox hb; have BK114 := Aside0.mk (hbox); have GW114 := gS HB hg; have GE114 := gS HB hg; replace HB := bS HB hb; clear hb hbox hg; have hcz41_0 := bc0 BK114; have hcz41_1 := bc1 BK114; have hfz41_0 := bf BK114 0; have hfz41_1 := bf BK114 1))
     have n0_ : Aside0 (((w40.setCell ⟨gb114, 0, none⟩ (.int .i64 ((rd_T46 l0 x7_1).f0))).setCell ⟨gb114, 1, none⟩ (.slice A113_1 ((rd_T46 l0 x7_1).f1).length c113_1)).heap[gb114]? = some (.cells #[.int .i64 ((rd_T46 l0 x7_1).f0), .slice A113_1 ((rd_T46 l0 x7_1).f1).length c113_1] 46 (0, 0))) := ⟨by (with_reducible repeat (first | refine blk_drewN ?_ _ | refine blk_drew ?_ | refine blk_alloc ?_ _)); refine blk_put (cs := #[.int .i64 ((rd_T46 l0 x7_1).f0), .slice none 0 0]) ?_ 1 _ rfl; (with_reducible repeat (first | refine blk_drewN ?_ _ | refine blk_drew ?_ | refine blk_alloc ?_ _)); refine blk_put (cs := #[.int .i64 0, .slice none 0 0]) ?_ 0 _ rfl; (with_reducible repeat (first | refine blk_drewN ?_ _ | refine blk_drew ?_ | refine blk_alloc ?_ _)); exact BK114.out⟩
     have n1_ : Aside0 (Below w.heap.size w ((w40.setCell ⟨gb114, 0, none⟩ (.int .i64 ((rd_T46 l0 x7_1).f0))).setCell ⟨gb114, 1, none⟩ (.slice A113_1 ((rd_T46 l0 x7_1).f1).length c113_1))) := ⟨zB HB⟩
     (try clear BK114)
     (try clear HB)
     generalize ((w40.setCell ⟨gb114, 0, none⟩ (.int .i64 ((rd_T46 l0 x7_1).f0))).setCell ⟨gb114, 1, none⟩ (.slice A113_1 ((rd_T46 l0 x7_1).f1).length c113_1)) = w42 at n0_ n1_ ⊢
     have BK114 := n0_
     have HB := n1_
     clear n0_ n1_
     replace BK114 := Aside0.mk (blk_drew BK114.out)
     replace HB := Aside0.mk (below_drew1 HB.out)
     refine start_ (n := 25) (S := fun w' => w'.cell? ⟨gb114, 0, none⟩ = some (.int .i64 ((rd_T46 l0 x7_1).f0)) ∧ w'.cell? ⟨gb114, 1, none⟩ = some (.slice A113_1 ((rd_T46 l0 x7_1).f1).length c113_1)) (ds := []) (bm 25 0) (by kernel_rfl) rfl (bm0 _) ⟨bc0 BK114, bc1 BK114⟩ (fun hHeld => ?_); refine with_tabW impl_AreExts.tab4 impl_AreExts.bits4 (fun HT_ HW_ => ?_)
     generalize w42.drew = w43 at BK114 HB hHeld ⊢
     refine pU 0 (some 12) (bm 25 1) HT_ rfl rfl ?_
     refine tU 1 (some 13) (bm 25 3) HT_ HW_ rfl rfl hHeld ?_
     refine one_ (i := 2) (N := some 14) (bm 25 7) rfl rfl (one_of HT_.out (by kernel_rfl)) (by decide) (fun K hK => ?_)
     refine goes_ Try.func43 (by kernel_rfl) rfl #[.int .i64 ((rd_T46 l0 x7_1).f0), .int .i64 0, .int .i64 255] (by rfl) rfl rfl zG ?_
     with_reducible refine (impl_InRange.calls ((rd_T46 l0 x7_1).f0) 0 255 false _ A5.out).mono ?_
     rintro e w' ⟨rfl, ⟨nd, rfl⟩⟩
     refine ⟨_, rfl, ?_⟩
     refine hK.out _ _ ⟨bc0 BK114, bc1 BK114⟩ (fun hHeld => ?_)
     clear hK K
     refine norm_ (a' := ?_) ?_ ?_
     rotate_left
     ·show Act.put _ (some 14) _ = _
      simp only [Act.put, List.setIfInBounds_toArray, List.set_cons_zero, List.set_cons_succ, i64_w, i32_w]
      rfl
     refine pU 3 (some 15) (bm 25 15) HT_ rfl rfl ?_
     refine pU 4 (some 16) (bm 25 31) HT_ rfl rfl ?_
     refine pV 5 (some 17) (bm 25 63) HT_ rfl rfl ?_
     refine pV 6 (some 18) (bm 25 127) HT_ rfl rfl ?_
     refine pV 7 (some 19) (bm 25 255) HT_ rfl rfl ?_
     refine pV 8 (some 20) (bm 25 511) HT_ rfl rfl ?_
     refine pV 9 (some 21) (bm 25 1023) HT_ rfl rfl ?_
     refine pV 10 (some 22) (bm 25 2047) HT_ rfl rfl ?_
     refine pV 11 (some 23) (bm 25 4095) HT_ rfl rfl ?_
     refine pU 12 (some 24) (bm 25 8191) HT_ rfl rfl ?_
     refine pU 13 (some 25) (bm 25 16383) HT_ rfl rfl ?_
     refine pV 14 (some 26) (bm 25 32767) HT_ rfl rfl ?_
     refine pV 15 (some 27) (bm 25 65535) HT_ rfl rfl ?_
     refine pV 16 (some 28) (bm 25 131071) HT_ rfl rfl ?_
     refine pV 17 (some 29) (bm 25 262143) HT_ rfl rfl ?_
     refine pU 18 (some 30) (bm 25 524287) HT_ rfl rfl ?_
     refine pU 19 (some 31) (bm 25 1048575) HT_ rfl rfl ?_
     refine pV 20 (some 32) (bm 25 2097151) HT_ rfl rfl ?_
     refine pV 21 (some 33) (bm 25 4194303) HT_ rfl rfl ?_
     refine pV 22 (some 34) (bm 25 8388607) HT_ rfl rfl ?_
     refine pV 23 (some 35) (bm 25 16777215) HT_ rfl rfl ?_
     refine pU 24 (some 36) (bm 25 33554431) HT_ rfl rfl ?_
     refine done_ (done_of HT_.out (by kernel_rfl)) ?_
     try clear hHeld
     try go_wp2
     go_ret
     exact ⟨zE, zB HB⟩
   ·rw [if_neg c2] at H
    have c2b0 : decide (x7_1 < (l0.length : Int)) = false := decide_eq_false c2
    clear c2
    obtain rfl := Option.some.inj H
    go_wp2
    go_ret
    exact ⟨zE, zB HB⟩

end Go.Proofs.Ytbahcefcoplmpaa.PFnGrease
