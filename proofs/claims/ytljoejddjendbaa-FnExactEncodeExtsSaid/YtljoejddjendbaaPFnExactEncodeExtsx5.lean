-- WRITTEN by pp.py, this session's own wrapper around the print; not trusted: Lean checks it
import Derived.Test.YtljoejddjendbaaPFnExactEncodeExtsx0
import Derived.Test.YtljoejddjendbaaPFnExactEncodeExtsx1
import Derived.Test.YtljoejddjendbaaPFnExactEncodeExtsx2
import Derived.Test.YtljoejddjendbaaPFnExactEncodeExtsx3
import Derived.Test.YtljoejddjendbaaPFnExactEncodeExtsx4
namespace Go.Proofs.Ytljoejddjendbaa.PFnExactEncodeExts
open Go.RowKit Go.Proofs.Ytljoejddjendbaa.Hw Go.Proofs.YtljoejddjendbaaW.PrintWords Go.Proofs.YtljoejddjendbaaW.PrintLast Go.Proofs.YtljoejddjendbaaW.PrintMore
attribute [local go_sem] max2_int min2_int max_two min_two max_three min_three max_four min_four   -- for this text's walks alone
set_option linter.unusedVariables false
set_option linter.unusedSimpArgs false
set_option linter.unusedSectionVars false

/-! ### impl_EncodeExts: function 44 -/
def impl_EncodeExts.l0 : Nat → List Int → List (S61) → Int → Int → Option (List Int × Bool)
 | 0, _, _, _, _ => none
 | k + 1, x4, x13, x14, x15 => if x15 < x14 then (if 0 ≤ x15 then (if x15 < (x13.length : Int) then ((some (([(rd_T61 x13 x15).f0, (((rd_T61 x13 x15).f1).length : Int)] : List Int) : List Int)).bind fun y182 => (if x4.length + y182.length < 17592186044416 then ((some (x4 ++ y182 : List Int)).bind fun y185 => (if y185.length + ((rd_T61 x13 x15).f1).length < 17592186044416 then (impl_EncodeExts.l0 k (y185 ++ ((rd_T61 x13 x15).f1)) x13 x14 (wrap64 (x15 + 1))) else (none))) else (none))) else (none)) else (none)) else (some (x4, true))
def impl_EncodeExts.f (k : Nat) (l0 : List (S61)) : Option (List Int × Bool) := (impl_AreExts.f k l0).bind fun t176 => (if t176 = true then (impl_EncodeExts.l0 k (([(l0.length : Int)] : List Int)) l0 (l0.length : Int) 0) else (some (([] : List Int), false)))
theorem impl_EncodeExts.mono_l : ∀ k, (∀ y0 y1 y2 y3, LeO (impl_EncodeExts.l0 k y0 y1 y2 y3) (impl_EncodeExts.l0 (k + 1) y0 y1 y2 y3))
 | 0 => fun _ _ _ _ r h => by simp [impl_EncodeExts.l0] at h
 | k + 1 => by
  have ih0 := impl_EncodeExts.mono_l k
  ·intro y0 y1 y2 y3
   unfold impl_EncodeExts.l0
   repeat' first
   | (with_reducible exact ih0 _ _ _ _)
   | (with_reducible exact impl_AreExts.mono _ _)
   | (with_reducible exact LeO.refl _)
   | (with_reducible exact LeO.none _)
   | (with_reducible refine LeO.ite ?_ ?_)
   | (with_reducible refine LeO.bind ?_ (fun _ => ?_))
   | exact ih0 _ _ _ _
   | exact impl_AreExts.mono _ _
   | exact LeO.none _
   | refine LeO.ite ?_ ?_
   | refine LeO.bind ?_ (fun _ => ?_)
theorem impl_EncodeExts.mono : ∀ a0 k, LeO (impl_EncodeExts.f k a0) (impl_EncodeExts.f (k + 1) a0) := by
 intro a0 k
 have ih0 := impl_EncodeExts.mono_l k
 unfold impl_EncodeExts.f
 repeat' first
   | (with_reducible exact ih0 _ _ _ _)
   | (with_reducible exact impl_AreExts.mono _ _)
   | (with_reducible exact LeO.refl _)
   | (with_reducible exact LeO.none _)
   | (with_reducible refine LeO.ite ?_ ?_)
   | (with_reducible refine LeO.bind ?_ (fun _ => ?_))
   | exact ih0 _ _ _ _
   | exact impl_AreExts.mono _ _
   | exact LeO.none _
   | refine LeO.ite ?_ ?_
   | refine LeO.bind ?_ (fun _ => ?_)
def impl_EncodeExts.T7 : Bool × List (List Nat × List Nat) := (true, [([], []), ([], []), ([1], [1]), ([], []), ([3], [3]), ([4], [4]), ([2, 5], [2, 5]), ([0, 6], [0, 6]), ([], []), ([8], [8]), ([7, 9, 7], [7, 9]), ([10, 10, 0, 1, 2, 3, 4, 5, 6, 7, 8, 9, 10], [0, 10])])
def impl_EncodeExts.B7 : List Nat := [0, 0, 2, 0, 8, 24, 62, 127, 0, 256, 1023, 2047]
theorem impl_EncodeExts.tab7 : rtab .any (opsOf Try.f44 7) = impl_EncodeExts.T7 := by kernel_rfl
theorem impl_EncodeExts.bits7 : waitsOk impl_EncodeExts.T7.2 impl_EncodeExts.B7 = true := by kernel_rfl
set_option maxHeartbeats 8000000 in
set_option maxRecDepth 100000 in
theorem impl_EncodeExts.calls (k : Nat) (A0 : Option Addr) (c0 : Nat) (l0 : List (S61)) (r1 : List Int) (r2 : Bool) (w : World) (hr0 : Kd.C k61 w A0 l0.length l0) (hc0 : l0.length ≤ c0) (h : impl_EncodeExts.f k l0 = some (r1, r2)) :
  Calls Try.prog 44 #[.slice A0 l0.length c0] w fun e w' => ∃ v0_ : Value, e = .returned (.tuple #[v0_, .bool r2]) ∧ Kd.R (Kd.int .i64) 3 w' w.heap.size (fun _ => True) v0_ r1 ∧ Below w.heap.size w w' := by
 have hu61 := Try.underlying61
 have HR0 := Aside0.mk hr0
 have HC0 := Aside0.mk hc0
 clear hr0 hc0
 have HB := Aside0.mk (Below.refl w.heap.size w)
 have H : ((impl_AreExts.f k l0).bind fun t176 => (if t176 = true then (impl_EncodeExts.l0 k (([(l0.length : Int)] : List Int)) l0 (l0.length : Int) 0) else (some (([] : List Int), false)))) = some (r1, r2) := h
 clear h
 replace H := Option.bind_eq_some_iff.mp H
 obtain ⟨t176, A20, H⟩ := H
 replace H : (if t176 = true then (impl_EncodeExts.l0 k (([(l0.length : Int)] : List Int)) l0 (l0.length : Int) 0) else (some (([] : List Int), false))) = some (r1, r2) := H
 have A2 := Aside0.mk A20
 clear A20
 by_cases c3 : t176 = true
 ·subst c3
  have H1 : (impl_EncodeExts.l0 k (([(l0.length : Int)] : List Int)) l0 (l0.length : Int) 0) = some (r1, r2) := by rw [if_pos rfl] at H; exact H
  clear H
  have H := H1
  clear H1
  obtain ⟨y177, hy177⟩ : ∃ y_ : List Int, y_ = (([(l0.length : Int)] : List Int)) := ⟨_, rfl⟩
  replace H : (impl_EncodeExts.l0 k y177 l0 (l0.length : Int) 0) = some (r1, r2) := by first | (rw [hy177]; with_reducible exact H) | (have H2_ := (Option.bind_some _ _).symm.trans H; rw [hy177]; with_reducible exact H2_) | (have H2_ := (Option.bind_some _ _).symm.trans H; with_reducible exact H2_) | with_reducible exact H | (rw [hy177]; exact H) | exact H
  have Ny177 := Aside0.mk hy177
  clear hy177
  have H' := Aside0.mk H
  clear H
  go_enter Try.func44, Try.ntmps44
  go_wp2_with (first | ((with_reducible refine gate_callee (f := 35) rfl ?_); refine goesL_ (some 8) rfl rfl Try.func35 (by kernel_rfl) rfl #[.slice A0 l0.length c0] rfl (by (try simp only [List.map_toArray, List.map_cons, List.map_nil]); first | done | rfl | (simp only [List.length_drop, List.length_take]; rfl)) ?_; (with_reducible refine (impl_AreExts.calls k _ _ l0 true _ ?side1 ?side2 A2.out).mono ?_); (case side1 => repeat (first | exact HR0.out | (with_reducible refine Kd.C_alloc ?_ _) | (with_reducible refine Kd.C_drewN ?_ _) | (with_reducible refine Kd.C_drew ?_))); (case side2 => exact HC0.out); rintro e w4 ⟨rfl, hb⟩; refine ⟨_, rfl, ?_⟩; have n0_ := Aside0.mk (below_step (by repeat (first | (with_reducible first | exact HB.out | apply below_alloc | apply pw_below_drewN | apply below_drew1) | exact HB.out)) hb); clear HB; have HB := n0_; clear n0_; (try clear hb); (try clear hb2); (try clear hk); (try clear hi)) | ((with_reducible refine gate_dst (N := 12) rfl ?_); refine Kd.R_lit (Kd.int .i64) _ 3 ?hg (N := 12) ?hd (xs := ([(l0.length : Int)] : List Int)) (inner := [.int .i64 (l0.length : Int)]) (ok := fun _ => True) (okp := fun _ => True) ?hr ?hp (fun _ hk => hk) trivial (Below.refl _ _) (Nat.le_refl _) (by simp) ?_; (case hd => rfl); (case hg => rfl); (case hr => first | (go_simp; done) | (go_simp; rfl)); (case hp => exact (Reps.one (show Kd.M (Kd.int .i64) _ _ _ (l0.length : Int) [.int .i64 (l0.length : Int)] from rfl) (Reps.none _ _))); intro v178 w5 ho6 hb hg_ hnew_; clear hg_ hnew_; (first | rw [← Ny177.out] at ho6 | (simp only [Int.reduceToNat] at ho6; rw [← Ny177.out] at ho6)); have n0_ := Aside0.mk (Kd.R_lower ho6 (below_size (by repeat (first | (with_reducible first | exact HB.out | apply below_alloc | apply pw_below_drewN | apply below_drew1) | exact HB.out)))); have n1_ := Aside0.mk (below_step (by repeat (first | (with_reducible first | exact HB.out | apply below_alloc | apply pw_below_drewN | apply below_drew1) | exact HB.out)) hb); clear HB; have HO179 := n0_; have HB := n1_; clear n0_ n1_; clear hb ho6))
  go_loopg [4, 15] k (fun kq v4 v15 w' => ∃ (x4_1 : List Int) (x15_1 : Int), v15 = .int .i64 x15_1 ∧ Aside0 (impl_EncodeExts.l0 kq x4_1 l0 (l0.length : Int) x15_1 = some (r1, r2)) ∧ Aside0 (kq ≤ k) ∧ Aside0 (Kd.R (Kd.int .i64) 3 w' w.heap.size (fun _ => True) v4 x4_1) ∧ Aside0 (Below w.heap.size w w'))
  case atStart => exact ⟨(y177), (0), (by first | rfl | (simp; done) | (simp [*]; done)), H', ⟨Nat.le_refl _⟩, ⟨by (with_reducible repeat (first | apply Kd.R_alloc | apply Kd.R_drewN | apply Kd.R_drew)); exact HO179.out⟩, ⟨by repeat (first | (with_reducible first | exact HB.out | apply below_alloc | apply pw_below_drewN | apply below_drew1) | exact HB.out)⟩⟩
  case round =>
   clear H'
   try clear p2
   try clear c3
   try clear c4
   obtain ⟨x4_1, x15_1, rfl, HA, HK1, HO_4, HB⟩ := hrel
   cases gk with
   | zero => exact absurd HA.out (by simp [impl_EncodeExts.l0])
   | succ k1 =>
    have H := HA.out
    clear HA
    simp only [impl_EncodeExts.l0] at H
    by_cases c7 : x15_1 < (l0.length : Int)
    ·rw [if_pos c7] at H
     have c7b0 : decide (x15_1 < (l0.length : Int)) = true := decide_eq_true c7
     clear c7
     by_cases c8 : 0 ≤ x15_1
     ·rw [if_pos c8] at H
      have c8b0 : decide (0 ≤ x15_1) = true := decide_eq_true c8
      clear c8
      by_cases c9 : x15_1 < (l0.length : Int)
      ·rw [if_pos c9] at H
       have c9b0 : decide (x15_1 < (l0.length : Int)) = true := decide_eq_true c9
       clear c9
       obtain ⟨y182, hy182⟩ : ∃ y_ : List Int, y_ = (([(rd_T61 l0 x15_1).f0, (((rd_T61 l0 x15_1).f1).length : Int)] : List Int)) := ⟨_, rfl⟩
       replace H : (if x4_1.length + y182.length < 17592186044416 then ((some (x4_1 ++ y182 : List Int)).bind fun y185 => (if y185.length + ((rd_T61 l0 x15_1).f1).length < 17592186044416 then (impl_EncodeExts.l0 k1 (y185 ++ ((rd_T61 l0 x15_1).f1)) l0 (l0.length : Int) (wrap64 (x15_1 + 1))) else (none))) else (none)) = some (r1, r2) := by first | (rw [hy182]; with_reducible exact H) | (have H2_ := (Option.bind_some _ _).symm.trans H; rw [hy182]; with_reducible exact H2_) | (have H2_ := (Option.bind_some _ _).symm.trans H; with_reducible exact H2_) | with_reducible exact H | (rw [hy182]; exact H) | exact H
       have Ny182 := Aside0.mk hy182
       clear hy182
       by_cases c10 : x4_1.length + y182.length < 17592186044416
       ·rw [if_pos c10] at H
        have LMc10 := Aside0.mk c10
        clear c10
        obtain ⟨y185, hy185⟩ : ∃ y_ : List Int, y_ = (x4_1 ++ y182) := ⟨_, rfl⟩
        replace H : (if y185.length + ((rd_T61 l0 x15_1).f1).length < 17592186044416 then (impl_EncodeExts.l0 k1 (y185 ++ ((rd_T61 l0 x15_1).f1)) l0 (l0.length : Int) (wrap64 (x15_1 + 1))) else (none)) = some (r1, r2) := by first | (rw [hy185]; with_reducible exact H) | (have H2_ := (Option.bind_some _ _).symm.trans H; rw [hy185]; with_reducible exact H2_) | (have H2_ := (Option.bind_some _ _).symm.trans H; with_reducible exact H2_) | with_reducible exact H | (rw [hy185]; exact H) | exact H
        have Ny185 := Aside0.mk hy185
        clear hy185
        by_cases c11 : y185.length + ((rd_T61 l0 x15_1).f1).length < 17592186044416
        ·rw [if_pos c11] at H
         have LMc11 := Aside0.mk c11
         clear c11
         obtain ⟨y188, hy188⟩ : ∃ y_ : List Int, y_ = (y185 ++ ((rd_T61 l0 x15_1).f1)) := ⟨_, rfl⟩
         replace H : (impl_EncodeExts.l0 k1 y188 l0 (l0.length : Int) (wrap64 (x15_1 + 1))) = some (r1, r2) := by first | (rw [hy188]; with_reducible exact H) | (have H2_ := (Option.bind_some _ _).symm.trans H; rw [hy188]; with_reducible exact H2_) | (have H2_ := (Option.bind_some _ _).symm.trans H; with_reducible exact H2_) | with_reducible exact H | (rw [hy188]; exact H) | exact H
         have Ny188 := Aside0.mk hy188
         clear hy188
         have H' := Aside0.mk H
         clear H
         have p180 : 0 ≤ (x15_1 : Int) := of_decide_eq_true (by first | (with_reducible assumption) | assumption)
         have q180 : x15_1 < (l0.length : Int) := of_decide_eq_true (by first | (with_reducible assumption) | assumption)
         obtain ⟨ad180, A180_1, c180_1, e180, hx180_0, hx180_1, hl180_1, hi180_1⟩ := at_T61 HR0.out x15_1 p180 q180
         cases e180
         replace hx180_0 := (HB.out.cell (World.block_lt_of_cell? w _ hx180_0)).trans hx180_0
         replace hx180_1 := (HB.out.cell (World.block_lt_of_cell? w _ hx180_1)).trans hx180_1
         have HR180_1 := Aside0.mk hi180_1
         have HC180_1 := Aside0.mk hl180_1
         clear hi180_1 hl180_1
         replace p180 := eq_true p180
         replace q180 := eq_true q180
         try go_wp2_with (first | ((with_reducible refine gate_dst (N := 6) rfl ?_); refine box_event ?hg (N := 6) ?hd (cs := #[.int .i64 0, .slice none 0 0]) (t := 61) ?hr ?_; (case hd => rfl); (case hg => rfl); (case hr => first | (go_simp; done) | (go_simp; rfl)); intro gb181 hg w12 hbox hb; have n0_ := Aside0.mk (Kd.R_below (by (with_reducible repeat (first | apply Kd.R_alloc | apply Kd.R_drewN | apply Kd.R_drew)); exact HO_4.out) hb); have n1_ := Aside0.mk (below_step (by repeat (first | (with_reducible first | exact HB.out | apply below_alloc | apply pw_below_drewN | apply below_drew1) | exact HB.out)) hb); have n2_ := Aside0.mk (hbox); have n3_ := Aside0.mk ((by rw [hg]; exact (below_size (by repeat (first | (with_reducible first | exact HB.out | apply below_alloc | apply pw_below_drewN | apply below_drew1) | exact HB.out))) : w.heap.size ≤ gb181)); have n4_ := Aside0.mk ((by rw [hg]; exact (below_size (by repeat (first | (with_reducible first | exact HB.out | apply below_alloc | apply pw_below_drewN | apply below_drew1) | exact HB.out))) : w.heap.size ≤ gb181)); clear HO_4; clear HB; have HO_4 := n0_; have HB := n1_; have BK181 := n2_; have GW181 := n3_; have GE181 := n4_; clear n0_ n1_ n2_ n3_ n4_; clear hb hbox hg; have hcz13_0 : w12.cell? ⟨gb181, 0, none⟩ = some (.int .i64 0) := (blk_cell BK181.out 0).trans rfl; have hcz13_1 : w12.cell? ⟨gb181, 1, none⟩ = some (.slice none 0 0) := (blk_cell BK181.out 1).trans rfl; have hfz13_0 := blk_frozen BK181.out 0; have hfz13_1 := blk_frozen BK181.out 1))
         have n0_ : Aside0 (Kd.R (Kd.int .i64) 3 ((w12.setCell ⟨gb181, 0, none⟩ (.int .i64 ((rd_T61 l0 x15_1).f0))).setCell ⟨gb181, 1, none⟩ (.slice A180_1 ((rd_T61 l0 x15_1).f1).length c180_1)) w.heap.size (fun _ => True) u4 x4_1) := ⟨by (with_reducible repeat (first | apply Kd.R_alloc | apply Kd.R_drewN | apply Kd.R_drew)); exact Kd.R_mono (Kd.R_far (p := ⟨gb181, 1, none⟩) (Kd.R_far (p := ⟨gb181, 0, none⟩) (Kd.R_types HO_4.out BK181.out (by decide)) (fun _ hk => hk.2) (.int .i64 ((rd_T61 l0 x15_1).f0))) (fun _ hk => hk.2) (.slice A180_1 ((rd_T61 l0 x15_1).f1).length c180_1)) (fun _ hk => trivial)⟩
         have n1_ : Aside0 (((w12.setCell ⟨gb181, 0, none⟩ (.int .i64 ((rd_T61 l0 x15_1).f0))).setCell ⟨gb181, 1, none⟩ (.slice A180_1 ((rd_T61 l0 x15_1).f1).length c180_1)).heap[gb181]? = some (.cells #[.int .i64 ((rd_T61 l0 x15_1).f0), .slice A180_1 ((rd_T61 l0 x15_1).f1).length c180_1] 61 (0, 0))) := ⟨by (with_reducible repeat (first | refine blk_drewN ?_ _ | refine blk_drew ?_ | refine blk_alloc ?_ _)); refine blk_put (cs := #[.int .i64 ((rd_T61 l0 x15_1).f0), .slice none 0 0]) ?_ 1 _ rfl; (with_reducible repeat (first | refine blk_drewN ?_ _ | refine blk_drew ?_ | refine blk_alloc ?_ _)); refine blk_put (cs := #[.int .i64 0, .slice none 0 0]) ?_ 0 _ rfl; (with_reducible repeat (first | refine blk_drewN ?_ _ | refine blk_drew ?_ | refine blk_alloc ?_ _)); exact BK181.out⟩
         have n2_ : Aside0 (Below w.heap.size w ((w12.setCell ⟨gb181, 0, none⟩ (.int .i64 ((rd_T61 l0 x15_1).f0))).setCell ⟨gb181, 1, none⟩ (.slice A180_1 ((rd_T61 l0 x15_1).f1).length c180_1))) := ⟨by repeat (first | (with_reducible first | exact HB.out | apply below_alloc | apply pw_below_drewN | apply below_drew1 | refine below_set ?_ GE181.out) | exact HB.out)⟩
         (try clear HO_4)
         (try clear BK181)
         (try clear HB)
         generalize ((w12.setCell ⟨gb181, 0, none⟩ (.int .i64 ((rd_T61 l0 x15_1).f0))).setCell ⟨gb181, 1, none⟩ (.slice A180_1 ((rd_T61 l0 x15_1).f1).length c180_1)) = w14 at n0_ n1_ n2_ ⊢
         have HO_4 := n0_
         have BK181 := n1_
         have HB := n2_
         clear n0_ n1_ n2_
         have n0_ := Aside0.mk (Kd.R_drew HO_4.out)
         have n1_ := Aside0.mk (blk_drew BK181.out)
         have n2_ := Aside0.mk (below_drew1 HB.out)
         clear HO_4
         clear BK181
         clear HB
         have HO_4 := n0_
         have BK181 := n1_
         have HB := n2_
         clear n0_ n1_ n2_
         refine start_ (n := 12) (S := fun w' => w'.cell? ⟨gb181, 0, none⟩ = some (.int .i64 ((rd_T61 l0 x15_1).f0)) ∧ w'.cell? ⟨gb181, 1, none⟩ = some (.slice A180_1 ((rd_T61 l0 x15_1).f1).length c180_1)) (ds := []) #[false, false, false, false, false, false, false, false, false, false, false, false] (by kernel_rfl) rfl rfl ⟨(blk_cell BK181.out 0).trans rfl, (blk_cell BK181.out 1).trans rfl⟩ (fun hHeld => ?_); refine with_tabW impl_EncodeExts.tab7 impl_EncodeExts.bits7 (fun HT_ HW_ => ?_)
         generalize w14.drew = w15 at HO_4 BK181 HB hHeld ⊢
         refine pure_ (i := 0) (N := some 19) (v := ?_) (a' := ?_) #[true, false, false, false, false, false, false, false, false, false, false, false] rfl rfl (any_of HT_.out (by kernel_rfl)) (fun _ _ _ h => h) (Or.inl ⟨by rfl, ?_⟩) ?_ ?_
         rotate_left
         ·intro w'
          go_simp
          with_reducible rfl
         rotate_left
         ·simp only [Act.put, List.setIfInBounds_toArray, List.set_cons_zero, List.set_cons_succ, i64_w, i32_w]
          rfl
         refine pure_ (i := 1) (N := some 20) (v := ?_) (a' := ?_) #[true, true, false, false, false, false, false, false, false, false, false, false] rfl rfl (any_of HT_.out (by kernel_rfl)) (fun _ _ _ h => h) (Or.inl ⟨by rfl, ?_⟩) ?_ ?_
         rotate_left
         ·intro w'
          go_simp
          with_reducible rfl
         rotate_left
         ·simp only [Act.put, List.setIfInBounds_toArray, List.set_cons_zero, List.set_cons_succ, i64_w, i32_w]
          rfl
         refine pure_ (i := 3) (N := some 22) (v := ?_) (a' := ?_) #[true, true, false, true, false, false, false, false, false, false, false, false] rfl rfl (any_of HT_.out (by kernel_rfl)) (fun _ _ _ h => h) (Or.inl ⟨by rfl, ?_⟩) ?_ ?_
         rotate_left
         ·intro w'
          go_simp
          with_reducible rfl
         rotate_left
         ·simp only [Act.put, List.setIfInBounds_toArray, List.set_cons_zero, List.set_cons_succ, i64_w, i32_w]
          rfl
         refine pure_ (i := 8) (N := some 27) (v := ?_) (a' := ?_) #[true, true, false, true, false, false, false, false, true, false, false, false] rfl rfl (any_of HT_.out (by kernel_rfl)) (fun _ _ _ h => h) (Or.inl ⟨by rfl, ?_⟩) ?_ ?_
         rotate_left
         ·intro w'
          go_simp
          with_reducible rfl
         rotate_left
         ·simp only [Act.put, List.setIfInBounds_toArray, List.set_cons_zero, List.set_cons_succ, i64_w, i32_w]
          rfl
         refine take_ (i := 2) (N := some 21) (v := ?_) (a' := ?_) #[true, true, true, true, false, false, false, false, true, false, false, false] rfl rfl (take_ofW HT_.out HW_.out (by kernel_rfl)) (fun _ _ _ h => h) (Or.inl ⟨by rfl, ?_⟩) hHeld ?_ ?_
         rotate_left
         ·rintro w' ⟨s0, s1⟩
          go_simp
          with_reducible rfl
         rotate_left
         ·simp only [Act.put, List.setIfInBounds_toArray, List.set_cons_zero, List.set_cons_succ, i64_w, i32_w]
          rfl
         refine take_ (i := 4) (N := some 23) (v := ?_) (a' := ?_) #[true, true, true, true, true, false, false, false, true, false, false, false] rfl rfl (take_ofW HT_.out HW_.out (by kernel_rfl)) (fun _ _ _ h => h) (Or.inl ⟨by rfl, ?_⟩) hHeld ?_ ?_
         rotate_left
         ·rintro w' ⟨s0, s1⟩
          go_simp
          with_reducible rfl
         rotate_left
         ·simp only [Act.put, List.setIfInBounds_toArray, List.set_cons_zero, List.set_cons_succ, i64_w, i32_w]
          rfl
         refine pure_ (i := 5) (N := some 24) (v := ?_) (a' := ?_) #[true, true, true, true, true, true, false, false, true, false, false, false] rfl rfl (any_of HT_.out (by kernel_rfl)) (fun _ _ _ h => h) (Or.inl ⟨by rfl, ?_⟩) ?_ ?_
         rotate_left
         ·intro w'
          go_simp
          with_reducible rfl
         rotate_left
         ·simp only [Act.put, List.setIfInBounds_toArray, List.set_cons_zero, List.set_cons_succ, i64_w, i32_w]
          rfl
         refine take_ (i := 9) (N := some 28) (v := ?_) (a' := ?_) #[true, true, true, true, true, true, false, false, true, true, false, false] rfl rfl (take_ofW HT_.out HW_.out (by kernel_rfl)) (fun _ _ _ h => h) (Or.inl ⟨by rfl, ?_⟩) hHeld ?_ ?_
         rotate_left
         ·rintro w' ⟨s0, s1⟩
          go_simp
          with_reducible rfl
         rotate_left
         ·simp only [Act.put, List.setIfInBounds_toArray, List.set_cons_zero, List.set_cons_succ, i64_w, i32_w]
          rfl
         refine one_ (i := 6) (N := some 25) #[true, true, true, true, true, true, true, false, true, true, false, false] rfl rfl (one_of HT_.out (by kernel_rfl)) (by decide) (fun K hK => ?_)
         refine Kd.R_lit_step (Kd.int .i64) _ 3 ?hg (N := 25) ?hd (xs := ([(rd_T61 l0 x15_1).f0, (((rd_T61 l0 x15_1).f1).length : Int)] : List Int)) (inner := [.int .i64 ((rd_T61 l0 x15_1).f0), .int .i64 (((rd_T61 l0 x15_1).f1).length : Int)]) (ok := fun _ => True) (okp := fun _ => True) ?hr ?hp (fun _ hk => hk) trivial (Below.refl _ _) (Nat.le_refl _) (by simp) ?_; (case hd => rfl); (case hg => rfl); (case hr => first | (go_simp; done) | (go_simp; rfl)); (case hp => exact (Reps.one (show Kd.M (Kd.int .i64) _ _ _ ((rd_T61 l0 x15_1).f0) [.int .i64 ((rd_T61 l0 x15_1).f0)] from rfl) (Reps.one (show Kd.M (Kd.int .i64) _ _ _ (((rd_T61 l0 x15_1).f1).length : Int) [.int .i64 (((rd_T61 l0 x15_1).f1).length : Int)] from rfl) (Reps.none _ _))))
         intro v183 w16 ho17 hb hg_ hnew_
         clear hg_ hnew_
         (first | rw [← Ny182.out] at ho17 | (simp only [Int.reduceToNat] at ho17; rw [← Ny182.out] at ho17))
         have n0_ := Aside0.mk (Kd.R_elder' (by (with_reducible repeat (first | apply Kd.R_alloc | apply Kd.R_drewN | apply Kd.R_drew)); exact HO_4.out) (Kd.R_base ho17) hb)
         have n1_ := Aside0.mk (Kd.R_lower (Kd.R_new' ho17 (Kd.R_lt (by (with_reducible repeat (first | apply Kd.R_alloc | apply Kd.R_drewN | apply Kd.R_drew)); exact HO_4.out))) (below_size (by repeat (first | (with_reducible first | exact HB.out | apply below_alloc | apply pw_below_drewN | apply below_drew1 | refine below_set ?_ GE181.out) | exact HB.out))))
         have n2_ := Aside0.mk (blk_below (g := gb181) (o := .cells #[.int .i64 ((rd_T61 l0 x15_1).f0), .slice A180_1 ((rd_T61 l0 x15_1).f1).length c180_1] 61 (0, 0)) (by (with_reducible repeat (first | refine blk_drewN ?_ _ | refine blk_drew ?_ | refine blk_alloc ?_ _)); exact BK181.out) hb)
         have n3_ := Aside0.mk (below_step (by repeat (first | (with_reducible first | exact HB.out | apply below_alloc | apply pw_below_drewN | apply below_drew1 | refine below_set ?_ GE181.out) | exact HB.out)) hb)
         clear HO_4
         clear BK181
         clear HB
         have HO_4 := n0_
         have HO184 := n1_
         have BK181 := n2_
         have HB := n3_
         clear n0_ n1_ n2_ n3_
         clear hb ho17
         obtain ⟨Ao19, co19, eo19⟩ := Kd.R_slice HO184.out
         (first | subst eo19 | (injection eo19 with f1_ f2_ f3_; have f4_ := f1_.symm; have f5_ := f3_.symm; clear f1_ f2_ f3_; subst f4_; subst f5_))
         refine hK.out _ _ ⟨(blk_cell BK181.out 0).trans rfl, (blk_cell BK181.out 1).trans rfl⟩ (fun hHeld => ?_)
         clear hK K
         refine norm_ (a' := ?_) ?_ ?_
         rotate_left
         ·show Act.put _ (some 25) _ = _
          simp only [Act.put, List.setIfInBounds_toArray, List.set_cons_zero, List.set_cons_succ, i64_w, i32_w]
          rfl
         refine one_ (i := 7) (N := some 26) #[true, true, true, true, true, true, true, true, true, true, false, false] rfl rfl (one_of HT_.out (by kernel_rfl)) (by decide) (fun K hK => ?_)
         refine Kd.R_append_rows_step (Kd.int .i64) (w0 := w) w.heap.size (by rfl) (.tmp 19) (.tmp 25) 22 3 (.int .i64 0) 8 rfl Try.underlying22 info3 rfl (by decide) (by omega) u4 x4_1 y182 _ _ _ (fun k_ => some k_ ≠ (.slice Ao19 y182.length co19 : Value).ownBlock) (fun _ => False) rfl rfl ?aO ?aR (fun _ _ h => h) (fun _ h => h.elim) ?aF ?aB ?aS ?aL ?_
         (case aR => repeat (first | exact (Kd.R_reads' HO184.out).2.2 | (with_reducible refine Kd.C_alloc ?_ _) | (with_reducible refine Kd.C_drewN ?_ _) | (with_reducible refine Kd.C_drew ?_)))
         (case aB => exact (by repeat (first | (with_reducible first | exact HB.out | apply below_alloc | apply pw_below_drewN | apply below_drew1 | refine below_set ?_ GE181.out) | exact HB.out)))
         (case aF => exact (fun k_ hk => Kd.fresh' (Kd.R_lt (by (with_reducible repeat (first | apply Kd.R_alloc | apply Kd.R_drewN | apply Kd.R_drew)); exact HO184.out)) k_ hk))
         (case aO => exact (by (with_reducible repeat (first | apply Kd.R_alloc | apply Kd.R_drewN | apply Kd.R_drew)); exact Kd.R_mono HO_4.out (fun _ hk => hk.2)))
         (case aS => exact (below_size (by repeat (first | (with_reducible first | exact HB.out | apply below_alloc | apply pw_below_drewN | apply below_drew1 | refine below_set ?_ GE181.out) | exact HB.out))))
         (case aL => have := LMc10.out; omega)
         intro v186 w18 ho hb hg hat
         rw [← Ny185.out] at ho
         have n0_ := Aside0.mk (blk_grown (g := gb181) (o := .cells #[.int .i64 ((rd_T61 l0 x15_1).f0), .slice A180_1 ((rd_T61 l0 x15_1).f1).length c180_1] 61 (0, 0)) (by (with_reducible repeat (first | refine blk_drewN ?_ _ | refine blk_drew ?_ | refine blk_alloc ?_ _)); exact BK181.out) hg (Kd.R_ne HO_4.out BK181.out (by decide)))
         have n1_ := Aside0.mk (Kd.R_after (ok := (fun _ => True)) (by (with_reducible repeat (first | apply Kd.R_alloc | apply Kd.R_drewN | apply Kd.R_drew)); exact HO184.out) hg hat)
         have n2_ := Aside0.mk (hb)
         have n3_ := Aside0.mk (ho)
         clear BK181
         clear HO184
         clear HB
         clear HO_4
         have BK181 := n0_
         have HO184 := n1_
         have HB := n2_
         have HO187 := n3_
         clear n0_ n1_ n2_ n3_
         clear ho hb hg hat
         refine hK.out _ _ ⟨(blk_cell BK181.out 0).trans rfl, (blk_cell BK181.out 1).trans rfl⟩ (fun hHeld => ?_)
         clear hK K
         refine norm_ (a' := ?_) ?_ ?_
         rotate_left
         ·show Act.put _ (some 26) _ = _
          simp only [Act.put, List.setIfInBounds_toArray, List.set_cons_zero, List.set_cons_succ, i64_w, i32_w]
          rfl
         refine one_ (i := 10) (N := some 29) #[true, true, true, true, true, true, true, true, true, true, true, false] rfl rfl (one_of HT_.out (by kernel_rfl)) (by decide) (fun K hK => ?_)
         refine Kd.R_append_rows_step (Kd.int .i64) (w0 := w) w.heap.size (by rfl) (.tmp 26) (.tmp 28) 22 3 (.int .i64 0) 8 rfl Try.underlying22 info3 rfl (by decide) (by omega) v186 y185 ((rd_T61 l0 x15_1).f1) _ _ _ (fun k_ => some k_ ≠ (.slice Ao19 y182.length co19 : Value).ownBlock) (fun _ => False) rfl rfl ?aO ?aR (fun _ _ h => h) (fun _ h => h.elim) ?aF ?aB ?aS ?aL ?_
         (case aR => repeat (first | exact (Kd.C_below HR180_1.out HB.out) | (with_reducible refine Kd.C_alloc ?_ _) | (with_reducible refine Kd.C_drewN ?_ _) | (with_reducible refine Kd.C_drew ?_)))
         (case aB => exact (by repeat (first | (with_reducible first | exact HB.out | apply below_alloc | apply pw_below_drewN | apply below_drew1 | refine below_set ?_ GE181.out) | exact HB.out)))
         (case aF => exact (fun k_ hk => Kd.fresh' (Kd.R_lt (by (with_reducible repeat (first | apply Kd.R_alloc | apply Kd.R_drewN | apply Kd.R_drew)); exact HO184.out)) k_ hk))
         (case aO => exact (by (with_reducible repeat (first | apply Kd.R_alloc | apply Kd.R_drewN | apply Kd.R_drew)); exact HO187.out))
         (case aS => exact (below_size (by repeat (first | (with_reducible first | exact HB.out | apply below_alloc | apply pw_below_drewN | apply below_drew1 | refine below_set ?_ GE181.out) | exact HB.out))))
         (case aL => have := LMc11.out; omega)
         intro v189 w20 ho hb hg hat
         rw [← Ny188.out] at ho
         have n0_ := Aside0.mk (blk_grown (g := gb181) (o := .cells #[.int .i64 ((rd_T61 l0 x15_1).f0), .slice A180_1 ((rd_T61 l0 x15_1).f1).length c180_1] 61 (0, 0)) (by (with_reducible repeat (first | refine blk_drewN ?_ _ | refine blk_drew ?_ | refine blk_alloc ?_ _)); exact BK181.out) hg (Kd.R_ne HO187.out BK181.out (by decide)))
         have n1_ := Aside0.mk (Kd.R_after (ok := (fun _ => True)) (by (with_reducible repeat (first | apply Kd.R_alloc | apply Kd.R_drewN | apply Kd.R_drew)); exact HO184.out) hg hat)
         have n2_ := Aside0.mk (hb)
         have n3_ := Aside0.mk (ho)
         clear BK181
         clear HO184
         clear HB
         clear HO187
         have BK181 := n0_
         have HO184 := n1_
         have HB := n2_
         have HO190 := n3_
         clear n0_ n1_ n2_ n3_
         clear ho hb hg hat
         refine hK.out _ _ ⟨(blk_cell BK181.out 0).trans rfl, (blk_cell BK181.out 1).trans rfl⟩ (fun hHeld => ?_)
         clear hK K
         refine norm_ (a' := ?_) ?_ ?_
         rotate_left
         ·show Act.put _ (some 29) _ = _
          simp only [Act.put, List.setIfInBounds_toArray, List.set_cons_zero, List.set_cons_succ, i64_w, i32_w]
          rfl
         refine pure_ (i := 11) (N := some 4) (v := ?_) (a' := ?_) #[true, true, true, true, true, true, true, true, true, true, true, true] rfl rfl (any_of HT_.out (by kernel_rfl)) (fun _ _ _ h => h) (Or.inl ⟨by rfl, ?_⟩) ?_ ?_
         rotate_left
         ·intro w'
          go_simp
          with_reducible rfl
         rotate_left
         ·simp only [Act.put, List.setIfInBounds_toArray, List.set_cons_zero, List.set_cons_succ, i64_w, i32_w]
          rfl
         refine done_ (done_of HT_.out (by kernel_rfl)) ?_
         try clear hHeld
         try go_wp2
         go_roundg k1
         case measure => have := HK1.out; omega
         case rel => exact ⟨(y188), (wrap64 (x15_1 + 1)), (by first | rfl | (simp; done) | (simp [*]; done)), H', ⟨by have := HK1.out; omega⟩, ⟨by (with_reducible repeat (first | apply Kd.R_alloc | apply Kd.R_drewN | apply Kd.R_drew)); exact Kd.R_mono HO190.out (fun _ hk => trivial)⟩, ⟨by repeat (first | (with_reducible first | exact HB.out | apply below_alloc | apply pw_below_drewN | apply below_drew1 | refine below_set ?_ GE181.out) | exact HB.out)⟩⟩
        ·rw [if_neg c11] at H
         exact absurd H (by simp)
       ·rw [if_neg c10] at H
        exact absurd H (by simp)
      ·rw [if_neg c9] at H
       exact absurd H (by simp)
     ·rw [if_neg c8] at H
      exact absurd H (by simp)
    ·rw [if_neg c7] at H
     have c7b0 : decide (x15_1 < (l0.length : Int)) = false := decide_eq_false c7
     clear c7
     simp only [Option.some.injEq, Prod.mk.injEq] at H
     obtain ⟨rfl, rfl⟩ := H
     go_wp2
     go_ret2
     exact ⟨_, by first | rfl | (simp [errW_none, errW_some] <;> rfl) | (simp [*, errW_none, errW_some] <;> rfl), by (with_reducible repeat (first | apply Kd.R_alloc | apply Kd.R_drewN | apply Kd.R_drew)); exact HO_4.out, by repeat (first | (with_reducible first | exact HB.out | apply below_alloc | apply pw_below_drewN | apply below_drew1) | exact HB.out)⟩
 ·replace c3 := Bool.eq_false_iff.mpr c3
  subst c3
  have H1 : (some (([] : List Int), false)) = some (r1, r2) := by rw [if_neg (show ¬ (false = true) by decide)] at H; exact H
  clear H
  have H := H1
  clear H1
  simp only [Option.some.injEq, Prod.mk.injEq] at H
  obtain ⟨rfl, rfl⟩ := H
  go_enter Try.func44, Try.ntmps44
  go_wp2_with (first | ((with_reducible refine gate_callee (f := 35) rfl ?_); refine goesL_ (some 8) rfl rfl Try.func35 (by kernel_rfl) rfl #[.slice A0 l0.length c0] rfl (by (try simp only [List.map_toArray, List.map_cons, List.map_nil]); first | done | rfl | (simp only [List.length_drop, List.length_take]; rfl)) ?_; (with_reducible refine (impl_AreExts.calls k _ _ l0 false _ ?side1 ?side2 A2.out).mono ?_); (case side1 => repeat (first | exact HR0.out | (with_reducible refine Kd.C_alloc ?_ _) | (with_reducible refine Kd.C_drewN ?_ _) | (with_reducible refine Kd.C_drew ?_))); (case side2 => exact HC0.out); rintro e w21 ⟨rfl, hb⟩; refine ⟨_, rfl, ?_⟩; have n0_ := Aside0.mk (below_step (by repeat (first | (with_reducible first | exact HB.out | apply below_alloc | apply pw_below_drewN | apply below_drew1) | exact HB.out)) hb); clear HB; have HB := n0_; clear n0_; (try clear hb); (try clear hb2); (try clear hk); (try clear hi)))
  go_ret2
  exact ⟨_, by first | rfl | (simp [errW_none, errW_some] <;> rfl) | (simp [*, errW_none, errW_some] <;> rfl), by first | exact Kd.R_nil _ _ _ _ _ | exact Kd.N_nil _ _ _ _ _ | exact Kd.V_nil _ _ _ _ _ | exact Kd.Q_nil _ _ _ _ _ | exact Kd.S_nil _ _ _ _ _, by repeat (first | (with_reducible first | exact HB.out | apply below_alloc | apply pw_below_drewN | apply below_drew1) | exact HB.out)⟩

/-! ### laws_FnExactEncodeExts: function 12 -/
def laws_FnExactEncodeExts.f (k : Nat) (l0 : List (S60)) : Option (Bool) := (laws_szExtS.f k l0 1048576).bind fun t191 => (if t191 < 0 then (some true) else ((laws_toExtS.f k l0).bind fun t192 => ((spec_EncodeExts.f k t192).bind fun bt195 => ((laws_toExtS.f k l0).bind fun t199 => ((impl_EncodeExts.f k t199).bind fun bt202 => ((laws_eqIntS.f k bt202.1 bt195.1).bind fun t206 => (if t206 = true then (if (bt202.2 != bt195.2) = true then (some false) else ((laws_toExtS.f k l0).bind fun t207 => ((laws_eqExtS.f k t199 t207).bind fun t210 => (if t210 = true then ((laws_markExtS.f k t199 1).bind fun bt211 => (if bt211.1 < 0 then (some false) else ((laws_eqIntS.f k bt202.1 bt195.1).bind fun t213 => (if t213 = true then ((laws_markIntS.f k bt202.1 1).bind fun bt214 => ((laws_heldIntS.f k bt214.2 1).bind fun t216 => (if t216 < 0 then (some false) else (if t216 = bt214.1 then ((laws_toExtS.f k l0).bind fun t217 => ((impl_EncodeExts.f k t217).bind fun bt220 => ((laws_eqIntS.f k bt220.1 bt195.1).bind fun t224 => (if t224 = true then (if (bt220.2 != bt195.2) = true then (some false) else ((laws_heldIntS.f k bt214.2 1).bind fun t225 => (if t225 < 0 then (some false) else (if t225 = bt214.1 then (some true) else (some false))))) else (some false))))) else (some false))))) else (some false))))) else (some false))))) else (some false))))))))
set_option maxHeartbeats 8000000 in
set_option maxRecDepth 100000 in
theorem laws_FnExactEncodeExts.calls (k : Nat) (A0 : Option Addr) (c0 : Nat) (l0 : List (S60)) (r : Bool) (w : World) (hr0 : Kd.C k60 w A0 l0.length l0) (hc0 : l0.length ≤ c0) (ht_ : r = true) (h : laws_FnExactEncodeExts.f k l0 = some r) :
  Calls Try.prog 12 #[.slice A0 l0.length c0] w fun e w' => e = .returned (.bool r) ∧ Below w.heap.size w w' := by
 subst ht_
 have HR0 := Aside0.mk hr0
 have HC0 := Aside0.mk hc0
 clear hr0 hc0
 have H : ((laws_szExtS.f k l0 1048576).bind fun t191 => (if t191 < 0 then (some true) else ((laws_toExtS.f k l0).bind fun t192 => ((spec_EncodeExts.f k t192).bind fun bt195 => ((laws_toExtS.f k l0).bind fun t199 => ((impl_EncodeExts.f k t199).bind fun bt202 => ((laws_eqIntS.f k bt202.1 bt195.1).bind fun t206 => (if t206 = true then (if (bt202.2 != bt195.2) = true then (some false) else ((laws_toExtS.f k l0).bind fun t207 => ((laws_eqExtS.f k t199 t207).bind fun t210 => (if t210 = true then ((laws_markExtS.f k t199 1).bind fun bt211 => (if bt211.1 < 0 then (some false) else ((laws_eqIntS.f k bt202.1 bt195.1).bind fun t213 => (if t213 = true then ((laws_markIntS.f k bt202.1 1).bind fun bt214 => ((laws_heldIntS.f k bt214.2 1).bind fun t216 => (if t216 < 0 then (some false) else (if t216 = bt214.1 then ((laws_toExtS.f k l0).bind fun t217 => ((impl_EncodeExts.f k t217).bind fun bt220 => ((laws_eqIntS.f k bt220.1 bt195.1).bind fun t224 => (if t224 = true then (if (bt220.2 != bt195.2) = true then (some false) else ((laws_heldIntS.f k bt214.2 1).bind fun t225 => (if t225 < 0 then (some false) else (if t225 = bt214.1 then (some true) else (some false))))) else (some false))))) else (some false))))) else (some false))))) else (some false))))) else (some false))))))))) = some true := h
 clear h
 obtain ⟨t191, A1, H⟩ := Option.bind_eq_some_iff.mp H
 have A1 := Aside0.mk A1
 by_cases c2 : t191 < 0
 ·rw [if_pos c2] at H
  have f3 : decide (t191 < 0) = true := decide_eq_true c2
  have Cc2 := Aside0.mk c2
  clear c2
  clear H
  go_enter Try.func12, Try.ntmps12
  go_wp2_with fail
  refine calls_of_args (args' := #[.slice A0 l0.length c0, .int .i64 1048576]) (by first | rfl | rfl) ?_
  refine (laws_szExtS.calls (k := k) (l0 := l0) (hr0 := Kd.C_below HR0.out (Below.refl w.heap.size w)) (hc0 := HC0.out) (a1 := 1048576) (r := t191) (w := w) (h := A1.out)).mono ?_
  rintro e w4 ⟨rfl, hb⟩
  have s5 := Aside0.mk hb.size
  have HB6 := Aside0.mk (below_trans (Below.refl w.heap.size w) hb)
  clear hb
  go_wp2
  go_ret
  exact ⟨rfl, HB6.out⟩
 ·rw [if_neg c2] at H
  have f7 : decide (t191 < 0) = false := decide_eq_false c2
  have Cc2 := Aside0.mk c2
  clear c2
  obtain ⟨t192, A8, H⟩ := Option.bind_eq_some_iff.mp H
  have A8 := Aside0.mk A8
  obtain ⟨⟨t195, t196⟩, A9, H⟩ := Option.bind_eq_some_iff.mp H
  dsimp only at H A9
  have A9 := Aside0.mk A9
  obtain ⟨t199, A10, H⟩ := Option.bind_eq_some_iff.mp H
  have A10 := Aside0.mk A10
  obtain ⟨⟨t202, t203⟩, A11, H⟩ := Option.bind_eq_some_iff.mp H
  dsimp only at H A11
  have A11 := Aside0.mk A11
  obtain ⟨t206, A12, H⟩ := Option.bind_eq_some_iff.mp H
  have A12 := Aside0.mk A12
  by_cases c13 : t206 = true
  ·rw [if_pos c13] at H
   obtain rfl : t206 = true := by simpa using c13
   clear c13
   by_cases c14 : (t203 != t196) = true
   ·rw [if_pos c14] at H
    exact absurd H (by simp)
   ·rw [if_neg c14] at H
    have f15 : (t203 != t196) = false := by simpa using c14
    (try have f16 : decide (t203 = t196) = true := by simpa using c14)
    (try have f17 : (t203 == t196) = true := by simpa using c14)
    have Cc14 := Aside0.mk c14
    clear c14
    obtain ⟨t207, A18, H⟩ := Option.bind_eq_some_iff.mp H
    have A18 := Aside0.mk A18
    obtain ⟨t210, A19, H⟩ := Option.bind_eq_some_iff.mp H
    have A19 := Aside0.mk A19
    by_cases c20 : t210 = true
    ·rw [if_pos c20] at H
     obtain rfl : t210 = true := by simpa using c20
     clear c20
     obtain ⟨⟨t211, t212⟩, A21, H⟩ := Option.bind_eq_some_iff.mp H
     dsimp only at H A21
     have A21 := Aside0.mk A21
     by_cases c22 : t211 < 0
     ·rw [if_pos c22] at H
      exact absurd H (by simp)
     ·rw [if_neg c22] at H
      have f23 : decide (t211 < 0) = false := decide_eq_false c22
      have Cc22 := Aside0.mk c22
      clear c22
      obtain ⟨t213, A24, H⟩ := Option.bind_eq_some_iff.mp H
      have A24 := Aside0.mk A24
      by_cases c25 : t213 = true
      ·rw [if_pos c25] at H
       obtain rfl : t213 = true := by simpa using c25
       clear c25
       obtain ⟨⟨t214, t215⟩, A26, H⟩ := Option.bind_eq_some_iff.mp H
       dsimp only at H A26
       have A26 := Aside0.mk A26
       obtain ⟨t216, A27, H⟩ := Option.bind_eq_some_iff.mp H
       have A27 := Aside0.mk A27
       by_cases c28 : t216 < 0
       ·rw [if_pos c28] at H
        exact absurd H (by simp)
       ·rw [if_neg c28] at H
        have f29 : decide (t216 < 0) = false := decide_eq_false c28
        have Cc28 := Aside0.mk c28
        clear c28
        by_cases c30 : t216 = t214
        ·rw [if_pos c30] at H
         have f31 : (t216 == t214) = true := beq_iff_eq.mpr c30
         have f32 : (t216 != t214) = false := bne_eq_false_iff_eq.mpr c30
         have Cc30 := Aside0.mk c30
         clear c30
         obtain ⟨t217, A33, H⟩ := Option.bind_eq_some_iff.mp H
         have A33 := Aside0.mk A33
         obtain ⟨⟨t220, t221⟩, A34, H⟩ := Option.bind_eq_some_iff.mp H
         dsimp only at H A34
         have A34 := Aside0.mk A34
         obtain ⟨t224, A35, H⟩ := Option.bind_eq_some_iff.mp H
         have A35 := Aside0.mk A35
         by_cases c36 : t224 = true
         ·rw [if_pos c36] at H
          obtain rfl : t224 = true := by simpa using c36
          clear c36
          by_cases c37 : (t221 != t196) = true
          ·rw [if_pos c37] at H
           exact absurd H (by simp)
          ·rw [if_neg c37] at H
           have f38 : (t221 != t196) = false := by simpa using c37
           (try have f39 : decide (t221 = t196) = true := by simpa using c37)
           (try have f40 : (t221 == t196) = true := by simpa using c37)
           have Cc37 := Aside0.mk c37
           clear c37
           obtain ⟨t225, A41, H⟩ := Option.bind_eq_some_iff.mp H
           have A41 := Aside0.mk A41
           by_cases c42 : t225 < 0
           ·rw [if_pos c42] at H
            exact absurd H (by simp)
           ·rw [if_neg c42] at H
            have f43 : decide (t225 < 0) = false := decide_eq_false c42
            have Cc42 := Aside0.mk c42
            clear c42
            by_cases c44 : t225 = t214
            ·rw [if_pos c44] at H
             have f45 : (t225 == t214) = true := beq_iff_eq.mpr c44
             have f46 : (t225 != t214) = false := bne_eq_false_iff_eq.mpr c44
             have Cc44 := Aside0.mk c44
             clear c44
             clear H
             go_enter Try.func12, Try.ntmps12
             go_wp2_with fail
             refine calls_of_args (args' := #[.slice A0 l0.length c0, .int .i64 1048576]) (by first | rfl | rfl) ?_
             refine (laws_szExtS.calls (k := k) (l0 := l0) (hr0 := Kd.C_below HR0.out (Below.refl w.heap.size w)) (hc0 := HC0.out) (a1 := 1048576) (r := t191) (w := w) (h := A1.out)).mono ?_
             rintro e w47 ⟨rfl, hb⟩
             have s48 := Aside0.mk hb.size
             have HB49 := Aside0.mk (below_trans (Below.refl w.heap.size w) hb)
             clear hb
             go_wp2_with fail
             refine calls_of_args (args' := #[.slice A0 l0.length c0]) (by first | rfl | rfl) ?_
             refine (laws_toExtS.calls (k := k) (l0 := l0) (hr0 := Kd.C_below HR0.out HB49.out) (hc0 := HC0.out) (r := t192) (w := w47) (h := A8.out)).mono ?_
             rintro e w50 ⟨v193, rfl, ho0, hb⟩
             have s51 := Aside0.mk hb.size
             have HO53 := Aside0.mk (Kd.S_lower (Kd.S_mono (ok' := fun k_ => (w47.heap.size ≤ k_ ∧ k_ < w50.heap.size)) (Kd.S_bound ho0) (fun k_ hk_ => by have h1_ := hk_.2.1; have h2_ := hk_.2.2.1; omega)) (by have := s48.out; have := s51.out; omega : w.heap.size ≤ w47.heap.size))
             clear ho0
             obtain ⟨Ao54, co55, eq_⟩ := Kd.S_slice HO53.out
             subst eq_
             have HB52 := Aside0.mk (below_trans HB49.out hb)
             clear hb
             go_wp2_with fail
             refine calls_of_args (args' := #[.slice Ao54 t192.length co55]) (by first | rfl | rfl) ?_
             refine (spec_EncodeExts.calls (k := k) (l0 := t192) (A0 := Ao54) (c0 := co55) (hr0 := (Kd.S_reads' HO53.out).2.2) (hc0 := by have h_ := Kd.S_reads' HO53.out; omega) (r1 := t195) (r2 := t196) (w := w50) (h := A9.out)).mono ?_
             rintro e w56 ⟨v197, rfl, ho0, hb⟩
             have s57 := Aside0.mk hb.size
             have HO59 := Aside0.mk (Kd.S_below HO53.out hb)
             clear HO53
             have HO60 := Aside0.mk (Kd.R_lower (Kd.R_mono (ok' := fun k_ => (w50.heap.size ≤ k_ ∧ k_ < w56.heap.size)) (Kd.R_bound ho0) (fun k_ hk_ => by have h1_ := hk_.2.1; have h2_ := hk_.2.2.1; omega)) (by have := s48.out; have := s51.out; have := s57.out; omega : w.heap.size ≤ w50.heap.size))
             clear ho0
             obtain ⟨Ao61, co62, eq_⟩ := Kd.R_slice HO60.out
             subst eq_
             have HB58 := Aside0.mk (below_trans HB52.out hb)
             clear hb
             go_wp2_with fail
             refine calls_of_args (args' := #[.slice A0 l0.length c0]) (by first | rfl | rfl) ?_
             refine (laws_toExtS.calls (k := k) (l0 := l0) (hr0 := Kd.C_below HR0.out HB58.out) (hc0 := HC0.out) (r := t199) (w := w56) (h := A10.out)).mono ?_
             rintro e w63 ⟨v200, rfl, ho0, hb⟩
             have s64 := Aside0.mk hb.size
             have HO66 := Aside0.mk (Kd.S_below HO59.out hb)
             clear HO59
             have HO67 := Aside0.mk (Kd.R_below HO60.out hb)
             clear HO60
             have HO68 := Aside0.mk (Kd.S_lower (Kd.S_mono (ok' := fun k_ => (w56.heap.size ≤ k_ ∧ k_ < w63.heap.size)) (Kd.S_bound ho0) (fun k_ hk_ => by have h1_ := hk_.2.1; have h2_ := hk_.2.2.1; omega)) (by have := s48.out; have := s51.out; have := s57.out; have := s64.out; omega : w.heap.size ≤ w56.heap.size))
             clear ho0
             obtain ⟨Ao69, co70, eq_⟩ := Kd.S_slice HO68.out
             subst eq_
             have HB65 := Aside0.mk (below_trans HB58.out hb)
             clear hb
             go_wp2_with fail
             refine calls_of_args (args' := #[.slice Ao69 t199.length co70]) (by first | rfl | rfl) ?_
             refine (impl_EncodeExts.calls (k := k) (l0 := t199) (A0 := Ao69) (c0 := co70) (hr0 := (Kd.S_reads' HO68.out).2.2) (hc0 := by have h_ := Kd.S_reads' HO68.out; omega) (r1 := t202) (r2 := t203) (w := w63) (h := A11.out)).mono ?_
             rintro e w71 ⟨v204, rfl, ho0, hb⟩
             have s72 := Aside0.mk hb.size
             have HO74 := Aside0.mk (Kd.S_below HO66.out hb)
             clear HO66
             have HO75 := Aside0.mk (Kd.R_below HO67.out hb)
             clear HO67
             have HO76 := Aside0.mk (Kd.S_below HO68.out hb)
             clear HO68
             have HO77 := Aside0.mk (Kd.R_lower (Kd.R_mono (ok' := fun k_ => (w63.heap.size ≤ k_ ∧ k_ < w71.heap.size)) (Kd.R_bound ho0) (fun k_ hk_ => by have h1_ := hk_.2.1; have h2_ := hk_.2.2.1; omega)) (by have := s48.out; have := s51.out; have := s57.out; have := s64.out; have := s72.out; omega : w.heap.size ≤ w63.heap.size))
             clear ho0
             obtain ⟨Ao78, co79, eq_⟩ := Kd.R_slice HO77.out
             subst eq_
             have HB73 := Aside0.mk (below_trans HB65.out hb)
             clear hb
             go_wp2_with fail
             refine calls_of_args (args' := #[.slice Ao78 t202.length co79, .slice Ao61 t195.length co62]) (by first | rfl | rfl) ?_
             refine (laws_eqIntS.calls (k := k) (l0 := t202) (A0 := Ao78) (c0 := co79) (hr0 := (Kd.R_reads' HO77.out).2.2) (hc0 := by have h_ := Kd.R_reads' HO77.out; omega) (l1 := t195) (A1 := Ao61) (c1 := co62) (hr1 := (Kd.R_reads' HO75.out).2.2) (hc1 := by have h_ := Kd.R_reads' HO75.out; omega) (r := true) (w := w71) (h := A12.out)).mono ?_
             rintro e w80 ⟨rfl, hd_⟩
             have hb := hd_.below
             clear hd_
             have s81 := Aside0.mk hb.size
             have HO83 := Aside0.mk (Kd.S_below HO74.out hb)
             clear HO74
             have HO84 := Aside0.mk (Kd.R_below HO75.out hb)
             clear HO75
             have HO85 := Aside0.mk (Kd.S_below HO76.out hb)
             clear HO76
             have HO86 := Aside0.mk (Kd.R_below HO77.out hb)
             clear HO77
             have HB82 := Aside0.mk (below_trans HB73.out hb)
             clear hb
             go_wp2_with fail
             refine calls_of_args (args' := #[.slice A0 l0.length c0]) (by first | rfl | rfl) ?_
             refine (laws_toExtS.calls (k := k) (l0 := l0) (hr0 := Kd.C_below HR0.out HB82.out) (hc0 := HC0.out) (r := t207) (w := w80) (h := A18.out)).mono ?_
             rintro e w87 ⟨v208, rfl, ho0, hb⟩
             have s88 := Aside0.mk hb.size
             have HO90 := Aside0.mk (Kd.S_below HO83.out hb)
             clear HO83
             have HO91 := Aside0.mk (Kd.R_below HO84.out hb)
             clear HO84
             have HO92 := Aside0.mk (Kd.S_below HO85.out hb)
             clear HO85
             have HO93 := Aside0.mk (Kd.R_below HO86.out hb)
             clear HO86
             have HO94 := Aside0.mk (Kd.S_lower (Kd.S_mono (ok' := fun k_ => (w80.heap.size ≤ k_ ∧ k_ < w87.heap.size)) (Kd.S_bound ho0) (fun k_ hk_ => by have h1_ := hk_.2.1; have h2_ := hk_.2.2.1; omega)) (by have := s48.out; have := s51.out; have := s57.out; have := s64.out; have := s72.out; have := s81.out; have := s88.out; omega : w.heap.size ≤ w80.heap.size))
             clear ho0
             obtain ⟨Ao95, co96, eq_⟩ := Kd.S_slice HO94.out
             subst eq_
             have HB89 := Aside0.mk (below_trans HB82.out hb)
             clear hb
             go_wp2_with fail
             refine calls_of_args (args' := #[.slice Ao69 t199.length co70, .slice Ao95 t207.length co96]) (by first | rfl | rfl) ?_
             refine (laws_eqExtS.calls (k := k) (l0 := t199) (A0 := Ao69) (c0 := co70) (hr0 := (Kd.S_reads' HO92.out).2.2) (hc0 := by have h_ := Kd.S_reads' HO92.out; omega) (l1 := t207) (A1 := Ao95) (c1 := co96) (hr1 := (Kd.S_reads' HO94.out).2.2) (hc1 := by have h_ := Kd.S_reads' HO94.out; omega) (r := true) (w := w87) (h := A19.out)).mono ?_
             rintro e w97 ⟨rfl, hb⟩
             have s98 := Aside0.mk hb.size
             have HO100 := Aside0.mk (Kd.S_below HO90.out hb)
             clear HO90
             have HO101 := Aside0.mk (Kd.R_below HO91.out hb)
             clear HO91
             have HO102 := Aside0.mk (Kd.S_below HO92.out hb)
             clear HO92
             have HO103 := Aside0.mk (Kd.R_below HO93.out hb)
             clear HO93
             have HO104 := Aside0.mk (Kd.S_below HO94.out hb)
             clear HO94
             have HB99 := Aside0.mk (below_trans HB89.out hb)
             clear hb
             go_wp2_with fail
             refine calls_of_args (args' := #[.slice Ao69 t199.length co70, .int .i64 1]) (by first | rfl | rfl) ?_
             refine (laws_markExtS.calls (k := k) (l0 := t199) (P0_ := fun k_ => (w56.heap.size ≤ k_ ∧ k_ < w63.heap.size)) (u9000_ := .slice Ao69 t199.length co70) (ho0 := HO102.out) (a1 := 1) (r1 := t211) (r2 := t212) (w := w97) (w0 := w) (hB := HB99.out) (h := A21.out)).mono ?_
             rintro e w105 ⟨rfl, hy0, hb, hkp⟩
             have s106 := Aside0.mk hkp.1
             have HB107 := Aside0.mk hb
             have HO108 := Aside0.mk (Kd.S_kept HO100.out hkp (fun k_ hk_ hs_ => by have := s48.out; have := s51.out; have := s57.out; have := s64.out; have := s72.out; have := s81.out; have := s88.out; have := s98.out; have := s106.out; omega))
             clear HO100
             have HO109 := Aside0.mk (Kd.R_kept HO101.out hkp (fun k_ hk_ hs_ => by have := s48.out; have := s51.out; have := s57.out; have := s64.out; have := s72.out; have := s81.out; have := s88.out; have := s98.out; have := s106.out; omega))
             clear HO101
             have HO110 := Aside0.mk (Kd.R_kept HO103.out hkp (fun k_ hk_ hs_ => by have := s48.out; have := s51.out; have := s57.out; have := s64.out; have := s72.out; have := s81.out; have := s88.out; have := s98.out; have := s106.out; omega))
             clear HO103
             have HO111 := Aside0.mk (Kd.S_kept HO104.out hkp (fun k_ hk_ hs_ => by have := s48.out; have := s51.out; have := s57.out; have := s64.out; have := s72.out; have := s81.out; have := s88.out; have := s98.out; have := s106.out; omega))
             clear HO104
             have HO112 := Aside0.mk (Kd.S_mono (ok' := fun k_ => (w56.heap.size ≤ k_ ∧ k_ < w63.heap.size) ∨ (w97.heap.size ≤ k_ ∧ k_ < w105.heap.size)) (Kd.S_bound hy0) (fun k_ hk_ => by have h1_ := hk_.1; have h2_ := hk_.2.2.1; have := s48.out; have := s51.out; have := s57.out; have := s64.out; have := s72.out; have := s81.out; have := s88.out; have := s98.out; have := s106.out; omega))
             clear HO102
             clear hb hkp hy0
             go_wp2_with fail
             refine calls_of_args (args' := #[.slice Ao78 t202.length co79, .slice Ao61 t195.length co62]) (by first | rfl | (rw [← (Kd.S_reads' HO112.out).1])) ?_
             refine (laws_eqIntS.calls (k := k) (l0 := t202) (A0 := Ao78) (c0 := co79) (hr0 := (Kd.R_reads' HO110.out).2.2) (hc0 := by have h_ := Kd.R_reads' HO110.out; omega) (l1 := t195) (A1 := Ao61) (c1 := co62) (hr1 := (Kd.R_reads' HO109.out).2.2) (hc1 := by have h_ := Kd.R_reads' HO109.out; omega) (r := true) (w := w105) (h := A24.out)).mono ?_
             rintro e w113 ⟨rfl, hd_⟩
             have hb := hd_.below
             clear hd_
             have s114 := Aside0.mk hb.size
             have HO116 := Aside0.mk (Kd.S_below HO108.out hb)
             clear HO108
             have HO117 := Aside0.mk (Kd.R_below HO109.out hb)
             clear HO109
             have HO118 := Aside0.mk (Kd.S_below HO112.out hb)
             clear HO112
             have HO119 := Aside0.mk (Kd.R_below HO110.out hb)
             clear HO110
             have HO120 := Aside0.mk (Kd.S_below HO111.out hb)
             clear HO111
             have HB115 := Aside0.mk (below_trans HB107.out hb)
             clear hb
             go_wp2_with fail
             refine calls_of_args (args' := #[.slice Ao78 t202.length co79, .int .i64 1]) (by first | rfl | (rw [← (Kd.S_reads' HO118.out).1])) ?_
             refine (laws_markIntS.calls (k := k) (l0 := t202) (P0_ := fun k_ => (w63.heap.size ≤ k_ ∧ k_ < w71.heap.size)) (u9000_ := .slice Ao78 t202.length co79) (ho0 := HO119.out) (a1 := 1) (r1 := t214) (r2 := t215) (w := w113) (w0 := w) (hB := HB115.out) (h := A26.out)).mono ?_
             rintro e w121 ⟨rfl, hy0, hb, hkp⟩
             have s122 := Aside0.mk hkp.1
             have HB123 := Aside0.mk hb
             have HO124 := Aside0.mk (Kd.S_kept HO116.out hkp (fun k_ hk_ hs_ => by have := s48.out; have := s51.out; have := s57.out; have := s64.out; have := s72.out; have := s81.out; have := s88.out; have := s98.out; have := s106.out; have := s114.out; have := s122.out; omega))
             clear HO116
             have HO125 := Aside0.mk (Kd.R_kept HO117.out hkp (fun k_ hk_ hs_ => by have := s48.out; have := s51.out; have := s57.out; have := s64.out; have := s72.out; have := s81.out; have := s88.out; have := s98.out; have := s106.out; have := s114.out; have := s122.out; omega))
             clear HO117
             have HO126 := Aside0.mk (Kd.S_kept HO118.out hkp (fun k_ hk_ hs_ => by have := s48.out; have := s51.out; have := s57.out; have := s64.out; have := s72.out; have := s81.out; have := s88.out; have := s98.out; have := s106.out; have := s114.out; have := s122.out; omega))
             clear HO118
             have HO127 := Aside0.mk (Kd.S_kept HO120.out hkp (fun k_ hk_ hs_ => by have := s48.out; have := s51.out; have := s57.out; have := s64.out; have := s72.out; have := s81.out; have := s88.out; have := s98.out; have := s106.out; have := s114.out; have := s122.out; omega))
             clear HO120
             have HO128 := Aside0.mk (Kd.R_mono (ok' := fun k_ => (w63.heap.size ≤ k_ ∧ k_ < w71.heap.size) ∨ (w113.heap.size ≤ k_ ∧ k_ < w121.heap.size)) (Kd.R_bound hy0) (fun k_ hk_ => by have h1_ := hk_.1; have h2_ := hk_.2.2.1; have := s48.out; have := s51.out; have := s57.out; have := s64.out; have := s72.out; have := s81.out; have := s88.out; have := s98.out; have := s106.out; have := s114.out; have := s122.out; omega))
             clear HO119
             clear hb hkp hy0
             go_wp2_with fail
             refine calls_of_args (args' := #[.slice Ao78 t215.length co79, .int .i64 1]) (by first | rfl | (rw [← (Kd.S_reads' HO126.out).1]) | (rw [← (Kd.R_reads' HO128.out).1])) ?_
             refine (laws_heldIntS.calls (k := k) (l0 := t215) (A0 := Ao78) (c0 := co79) (hr0 := (Kd.R_reads' HO128.out).2.2) (hc0 := by have h_ := Kd.R_reads' HO128.out; omega) (a1 := 1) (r := t216) (w := w121) (h := A27.out)).mono ?_
             rintro e w129 ⟨rfl, hd_⟩
             have hb := hd_.below
             clear hd_
             have s130 := Aside0.mk hb.size
             have HO132 := Aside0.mk (Kd.S_below HO124.out hb)
             clear HO124
             have HO133 := Aside0.mk (Kd.R_below HO125.out hb)
             clear HO125
             have HO134 := Aside0.mk (Kd.S_below HO126.out hb)
             clear HO126
             have HO135 := Aside0.mk (Kd.R_below HO128.out hb)
             clear HO128
             have HO136 := Aside0.mk (Kd.S_below HO127.out hb)
             clear HO127
             have HB131 := Aside0.mk (below_trans HB123.out hb)
             clear hb
             go_wp2_with fail
             refine calls_of_args (args' := #[.slice A0 l0.length c0]) (by first | rfl | (rw [← (Kd.S_reads' HO134.out).1]) | (rw [← (Kd.R_reads' HO135.out).1])) ?_
             refine (laws_toExtS.calls (k := k) (l0 := l0) (hr0 := Kd.C_below HR0.out HB131.out) (hc0 := HC0.out) (r := t217) (w := w129) (h := A33.out)).mono ?_
             rintro e w137 ⟨v218, rfl, ho0, hb⟩
             have s138 := Aside0.mk hb.size
             have HO140 := Aside0.mk (Kd.S_below HO132.out hb)
             clear HO132
             have HO141 := Aside0.mk (Kd.R_below HO133.out hb)
             clear HO133
             have HO142 := Aside0.mk (Kd.S_below HO134.out hb)
             clear HO134
             have HO143 := Aside0.mk (Kd.R_below HO135.out hb)
             clear HO135
             have HO144 := Aside0.mk (Kd.S_below HO136.out hb)
             clear HO136
             have HO145 := Aside0.mk (Kd.S_lower (Kd.S_mono (ok' := fun k_ => (w129.heap.size ≤ k_ ∧ k_ < w137.heap.size)) (Kd.S_bound ho0) (fun k_ hk_ => by have h1_ := hk_.2.1; have h2_ := hk_.2.2.1; omega)) (by have := s48.out; have := s51.out; have := s57.out; have := s64.out; have := s72.out; have := s81.out; have := s88.out; have := s98.out; have := s106.out; have := s114.out; have := s122.out; have := s130.out; have := s138.out; omega : w.heap.size ≤ w129.heap.size))
             clear ho0
             obtain ⟨Ao146, co147, eq_⟩ := Kd.S_slice HO145.out
             subst eq_
             have HB139 := Aside0.mk (below_trans HB131.out hb)
             clear hb
             go_wp2_with fail
             refine calls_of_args (args' := #[.slice Ao146 t217.length co147]) (by first | rfl | (rw [← (Kd.S_reads' HO142.out).1]) | (rw [← (Kd.R_reads' HO143.out).1])) ?_
             refine (impl_EncodeExts.calls (k := k) (l0 := t217) (A0 := Ao146) (c0 := co147) (hr0 := (Kd.S_reads' HO145.out).2.2) (hc0 := by have h_ := Kd.S_reads' HO145.out; omega) (r1 := t220) (r2 := t221) (w := w137) (h := A34.out)).mono ?_
             rintro e w148 ⟨v222, rfl, ho0, hb⟩
             have s149 := Aside0.mk hb.size
             have HO151 := Aside0.mk (Kd.S_below HO140.out hb)
             clear HO140
             have HO152 := Aside0.mk (Kd.R_below HO141.out hb)
             clear HO141
             have HO153 := Aside0.mk (Kd.S_below HO142.out hb)
             clear HO142
             have HO154 := Aside0.mk (Kd.R_below HO143.out hb)
             clear HO143
             have HO155 := Aside0.mk (Kd.S_below HO144.out hb)
             clear HO144
             have HO156 := Aside0.mk (Kd.S_below HO145.out hb)
             clear HO145
             have HO157 := Aside0.mk (Kd.R_lower (Kd.R_mono (ok' := fun k_ => (w137.heap.size ≤ k_ ∧ k_ < w148.heap.size)) (Kd.R_bound ho0) (fun k_ hk_ => by have h1_ := hk_.2.1; have h2_ := hk_.2.2.1; omega)) (by have := s48.out; have := s51.out; have := s57.out; have := s64.out; have := s72.out; have := s81.out; have := s88.out; have := s98.out; have := s106.out; have := s114.out; have := s122.out; have := s130.out; have := s138.out; have := s149.out; omega : w.heap.size ≤ w137.heap.size))
             clear ho0
             obtain ⟨Ao158, co159, eq_⟩ := Kd.R_slice HO157.out
             subst eq_
             have HB150 := Aside0.mk (below_trans HB139.out hb)
             clear hb
             go_wp2_with fail
             refine calls_of_args (args' := #[.slice Ao158 t220.length co159, .slice Ao61 t195.length co62]) (by first | rfl | (rw [← (Kd.S_reads' HO153.out).1]) | (rw [← (Kd.R_reads' HO154.out).1])) ?_
             refine (laws_eqIntS.calls (k := k) (l0 := t220) (A0 := Ao158) (c0 := co159) (hr0 := (Kd.R_reads' HO157.out).2.2) (hc0 := by have h_ := Kd.R_reads' HO157.out; omega) (l1 := t195) (A1 := Ao61) (c1 := co62) (hr1 := (Kd.R_reads' HO152.out).2.2) (hc1 := by have h_ := Kd.R_reads' HO152.out; omega) (r := true) (w := w148) (h := A35.out)).mono ?_
             rintro e w160 ⟨rfl, hd_⟩
             have hb := hd_.below
             clear hd_
             have s161 := Aside0.mk hb.size
             have HO163 := Aside0.mk (Kd.S_below HO151.out hb)
             clear HO151
             have HO164 := Aside0.mk (Kd.R_below HO152.out hb)
             clear HO152
             have HO165 := Aside0.mk (Kd.S_below HO153.out hb)
             clear HO153
             have HO166 := Aside0.mk (Kd.R_below HO154.out hb)
             clear HO154
             have HO167 := Aside0.mk (Kd.S_below HO155.out hb)
             clear HO155
             have HO168 := Aside0.mk (Kd.S_below HO156.out hb)
             clear HO156
             have HO169 := Aside0.mk (Kd.R_below HO157.out hb)
             clear HO157
             have HB162 := Aside0.mk (below_trans HB150.out hb)
             clear hb
             go_wp2_with fail
             refine calls_of_args (args' := #[.slice Ao78 t215.length co79, .int .i64 1]) (by first | rfl | (rw [← (Kd.S_reads' HO165.out).1]) | (rw [← (Kd.R_reads' HO166.out).1])) ?_
             refine (laws_heldIntS.calls (k := k) (l0 := t215) (A0 := Ao78) (c0 := co79) (hr0 := (Kd.R_reads' HO166.out).2.2) (hc0 := by have h_ := Kd.R_reads' HO166.out; omega) (a1 := 1) (r := t225) (w := w160) (h := A41.out)).mono ?_
             rintro e w170 ⟨rfl, hd_⟩
             have hb := hd_.below
             clear hd_
             have s171 := Aside0.mk hb.size
             have HO173 := Aside0.mk (Kd.S_below HO163.out hb)
             clear HO163
             have HO174 := Aside0.mk (Kd.R_below HO164.out hb)
             clear HO164
             have HO175 := Aside0.mk (Kd.S_below HO165.out hb)
             clear HO165
             have HO176 := Aside0.mk (Kd.R_below HO166.out hb)
             clear HO166
             have HO177 := Aside0.mk (Kd.S_below HO167.out hb)
             clear HO167
             have HO178 := Aside0.mk (Kd.S_below HO168.out hb)
             clear HO168
             have HO179 := Aside0.mk (Kd.R_below HO169.out hb)
             clear HO169
             have HB172 := Aside0.mk (below_trans HB162.out hb)
             clear hb
             go_wp2
             go_ret
             exact ⟨rfl, HB172.out⟩
            ·rw [if_neg c44] at H
             exact absurd H (by simp)
         ·rw [if_neg c36] at H
          exact absurd H (by simp)
        ·rw [if_neg c30] at H
         exact absurd H (by simp)
      ·rw [if_neg c25] at H
       exact absurd H (by simp)
    ·rw [if_neg c20] at H
     exact absurd H (by simp)
  ·rw [if_neg c13] at H
   exact absurd H (by simp)

/-- What is known of a value of type 60 that came in. -/
def W60 (x : S60) : Prop := (Lit.int .i64 x.f0).wf = true ∧ (x.f1.length ≤ 9223372036854775807 ∧ ∀ y ∈ x.f1, (Lit.int .i64 y).wf = true)

/-- The pure statement of laws_FnExactEncodeExts. -/
def laws_FnExactEncodeExts.Pure : Prop := ∀ (l0 : List (S60)), l0.length ≤ 9223372036854775807 → (∀ x ∈ l0, W60 x) → ∃ k, laws_FnExactEncodeExts.f k l0 = some true

end Go.Proofs.Ytljoejddjendbaa.PFnExactEncodeExts
