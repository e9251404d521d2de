-- WRITTEN by pp.py, this session's own wrapper around the print; not trusted: Lean checks it
import Derived.Test.YtfibjclnaeocbaaPFnPairsx0
namespace Go.Proofs.Ytfibjclnaeocbaa.PFnPairs
open Go.RowKit Go.Proofs.Ytfibjclnaeocbaa.Hw Go.Proofs.YtfibjclnaeocbaaW.PrintWords Go.Proofs.YtfibjclnaeocbaaW.PrintLast Go.Proofs.YtfibjclnaeocbaaW.PrintMore
attribute [local go_sem] max2_int min2_int max_two min_two max_three min_three max_four min_four   -- for this text's walks alone
set_option linter.unusedVariables false
set_option linter.unusedSimpArgs false
set_option linter.unusedSectionVars false

/-! ### impl_DualOf: function 12 -/
def impl_DualOf.l0 : Nat → Int → Int → Int → List Bool → List (S46) → Option (Int × List Bool × (List (S46)))
 | 0, _, _, _, _, _ => none
 | k + 1, x18, x19, x560000, x560001, x560002 => if x19 < x18 then (if 0 ≤ x19 then (if x19 < (x560002.length : Int) then (impl_DualOf.l0 k x18 (wrap64 (x19 + 1)) x560000 x560001 (x560002.set (x19 : Int).toNat (⟨(rd_T46 x560002 x19).f0, !((rd_T46 x560002 x19).f1), (rd_T46 x560002 x19).f2, (rd_T46 x560002 x19).f3⟩ : S46))) else (none)) else (none)) else (some (x560000, x560001, x560002))
def impl_DualOf.f (k : Nat) (a0_0 : Int) (l0_1 : List Bool) (l0_2 : List (S46)) : Option (Int × List Bool × (List (S46))) := (some (([] : List Bool) : List Bool)).bind fun y547 => (if y547.length + l0_1.length < 140737488355328 then ((some (([] : List (S46)) : List (S46))).bind fun y553 => (if y553.length + l0_2.length < 4398046511104 then ((some (y553 ++ l0_2 : List (S46))).bind fun y556 => (impl_DualOf.l0 k (y556.length : Int) 0 a0_0 (y547 ++ l0_1) y556)) else (none))) else (none))
theorem impl_DualOf.mono_l : ∀ k, (∀ y0 y1 y2 y3 y4, LeO (impl_DualOf.l0 k y0 y1 y2 y3 y4) (impl_DualOf.l0 (k + 1) y0 y1 y2 y3 y4))
 | 0 => fun _ _ _ _ _ r h => by simp [impl_DualOf.l0] at h
 | k + 1 => by
  have ih0 := impl_DualOf.mono_l k
  ·intro y0 y1 y2 y3 y4
   unfold impl_DualOf.l0
   repeat' first
   | (with_reducible first | exact ih0 _ _ _ _ _ | exact LeO.refl _ | exact LeO.none _ | refine LeO.ite ?_ ?_ | refine LeO.bind ?_ (fun _ => ?_))
   | exact ih0 _ _ _ _ _
   | exact LeO.none _
   | refine LeO.ite ?_ ?_
   | refine LeO.bind ?_ (fun _ => ?_)
theorem impl_DualOf.mono : ∀ a0 a1 a2 k, LeO (impl_DualOf.f k a0 a1 a2) (impl_DualOf.f (k + 1) a0 a1 a2) := by
 intro a0 a1 a2 k
 have ih0 := impl_DualOf.mono_l k
 unfold impl_DualOf.f
 repeat' first
   | (with_reducible first | exact ih0 _ _ _ _ _ | exact LeO.refl _ | exact LeO.none _ | refine LeO.ite ?_ ?_ | refine LeO.bind ?_ (fun _ => ?_))
   | exact ih0 _ _ _ _ _
   | exact LeO.none _
   | refine LeO.ite ?_ ?_
   | refine LeO.bind ?_ (fun _ => ?_)
def impl_DualOf.T1 : Bool × List (List Nat × List Nat) := (true, [([], []), ([0], [0]), ([], []), ([], []), ([3], [3]), ([2, 4], [2, 4]), ([], []), ([], []), ([7], [7]), ([6, 8, 5], [6, 8]), ([1, 5, 9], [1, 5, 9]), ([], []), ([11, 10, 9, 0, 1, 2, 3, 4, 5, 6, 7, 8, 9, 10, 11], [10, 11])])
def impl_DualOf.B1 : List Nat := [0, 1, 0, 0, 8, 28, 0, 0, 128, 508, 1023, 0, 4095]
theorem impl_DualOf.tab1 : rtab .any (opsOf Try.f12 1) = impl_DualOf.T1 := by kernel_rfl
theorem impl_DualOf.bits1 : waitsOk impl_DualOf.T1.2 impl_DualOf.B1 = true := by kernel_rfl
def impl_DualOf.T5 : Bool × List (List Nat × List Nat) := (true, [([], []), ([0], [0]), ([], []), ([], []), ([3], [3]), ([], []), ([4, 5], [4, 5]), ([6], [6]), ([7], [7]), ([8], [8]), ([1, 2, 0, 1, 2, 3, 4, 5, 6, 7, 8, 9], [1, 2]), ([10, 0, 1, 2, 3, 4, 5, 6, 7, 8, 9], [10]), ([11, 9, 0, 1, 2, 3, 4, 5, 6, 7, 8, 9], [9, 11])])
def impl_DualOf.B5 : List Nat := [0, 1, 0, 0, 8, 0, 56, 120, 248, 504, 1023, 2047, 4095]
theorem impl_DualOf.tab5 : rtab .any (opsOf Try.f12 5) = impl_DualOf.T5 := by kernel_rfl
theorem impl_DualOf.bits5 : waitsOk impl_DualOf.T5.2 impl_DualOf.B5 = true := by kernel_rfl
set_option maxHeartbeats 8000000 in
set_option maxRecDepth 100000 in
theorem impl_DualOf.calls (k : Nat) (a0_0 : Int) (A0_1 : Option Addr) (c0_1 : Nat) (l0_1 : List Bool) (A0_2 : Option Addr) (c0_2 : Nat) (l0_2 : List (S46)) (r1 : Int) (r2 : List Bool) (r3 : List (S46)) (w : World) (hr0_1 : Kd.C Kd.bool w A0_1 l0_1.length l0_1) (hc0_1 : l0_1.length ≤ c0_1) (hr0_2 : Kd.C k46 w A0_2 l0_2.length l0_2) (hc0_2 : l0_2.length ≤ c0_2) (h : impl_DualOf.f k a0_0 l0_1 l0_2 = some (r1, r2, r3)) :
  Calls Try.prog 12 #[.agg #[.int .i64 a0_0, .slice A0_1 l0_1.length c0_1, .slice A0_2 l0_2.length c0_2]] w fun e w' => ∃ v1_ v2_ : Value, e = .returned (.agg #[.int .i64 r1, v1_, v2_]) ∧ Kd.R Kd.bool 4 w' w.heap.size (fun _ => True) v1_ r2 ∧ Kd.R k46 46 w' w.heap.size (fun _ => True) v2_ r3 ∧ Below w.heap.size w w' := by
 have hu27 := Try.underlying27
 have HR0_1 := aM hr0_1
 have HC0_1 := aM hc0_1
 clear hr0_1 hc0_1
 have HR0_2 := aM hr0_2
 have HC0_2 := aM hc0_2
 clear hr0_2 hc0_2
 have HB := aM (Below.refl w.heap.size w)
 have H : ((some (([] : List Bool) : List Bool)).bind fun y547 => (if y547.length + l0_1.length < 140737488355328 then ((some (([] : List (S46)) : List (S46))).bind fun y553 => (if y553.length + l0_2.length < 4398046511104 then ((some (y553 ++ l0_2 : List (S46))).bind fun y556 => (impl_DualOf.l0 k (y556.length : Int) 0 a0_0 (y547 ++ l0_1) y556)) else (none))) else (none))) = some (r1, r2, r3) := h
 clear h
 obtain ⟨y547, hy547⟩ : ∃ y_ : List Bool, y_ = (([] : List Bool)) := ⟨_, rfl⟩
 replace H : (if y547.length + l0_1.length < 140737488355328 then ((some (([] : List (S46)) : List (S46))).bind fun y553 => (if y553.length + l0_2.length < 4398046511104 then ((some (y553 ++ l0_2 : List (S46))).bind fun y556 => (impl_DualOf.l0 k (y556.length : Int) 0 a0_0 (y547 ++ l0_1) y556)) else (none))) else (none)) = some (r1, r2, r3) := by first | (rw [hy547]; with_reducible exact H) | (rw [hy547]; exact H) | exact H
 have Ny547 := aM hy547
 clear hy547
 by_cases c2 : y547.length + l0_1.length < 140737488355328
 ·rw [if_pos c2] at H
  have LMc2 := aM c2
  clear c2
  obtain ⟨y550, hy550⟩ : ∃ y_ : List Bool, y_ = (y547 ++ l0_1) := ⟨_, rfl⟩
  replace H : ((some (([] : List (S46)) : List (S46))).bind fun y553 => (if y553.length + l0_2.length < 4398046511104 then ((some (y553 ++ l0_2 : List (S46))).bind fun y556 => (impl_DualOf.l0 k (y556.length : Int) 0 a0_0 y550 y556)) else (none))) = some (r1, r2, r3) := by first | (rw [hy550]; with_reducible exact H) | (rw [hy550]; exact H) | exact H
  have Ny550 := aM hy550
  clear hy550
  obtain ⟨y553, hy553⟩ : ∃ y_ : List (S46), y_ = (([] : List (S46))) := ⟨_, rfl⟩
  replace H : (if y553.length + l0_2.length < 4398046511104 then ((some (y553 ++ l0_2 : List (S46))).bind fun y556 => (impl_DualOf.l0 k (y556.length : Int) 0 a0_0 y550 y556)) else (none)) = some (r1, r2, r3) := by first | (rw [hy553]; with_reducible exact H) | (rw [hy553]; exact H) | exact H
  have Ny553 := aM hy553
  clear hy553
  obtain ⟨c3, H⟩ := ifS H
  have LMc3 := aM c3
  clear c3
  obtain ⟨y556, hy556⟩ : ∃ y_ : List (S46), y_ = (y553 ++ l0_2) := ⟨_, rfl⟩
  replace H : (impl_DualOf.l0 k (y556.length : Int) 0 a0_0 y550 y556) = some (r1, r2, r3) := by first | (rw [hy556]; with_reducible exact H) | (rw [hy556]; exact H) | exact H
  have Ny556 := aM hy556
  clear hy556
  have H' := aM H
  clear H
  go_enter Try.func12, Try.ntmps12
  try go_wp2_with (first | ((with_reducible refine gD (N := 1) rfl ?_); refine box_event ?hg (N := 1) ?hd (cs := #[.int .i64 a0_0, .slice A0_1 l0_1.length c0_1, .slice A0_2 l0_2.length c0_2]) (t := 27) ?hr ?_; (case hd => rfl); (case hg => rfl); (case hr => first | (go_simp; done) | (go_simp; rfl)); intro gb545 hg w4 hbox hb; have BK545 := aM (hbox); have GW545 := gS HB hg; have GE545 := gS HB hg; replace HB := bS HB hb; clear hb hbox hg) | ((with_reducible refine gD (N := 2) rfl ?_); refine box_event ?hg (N := 2) ?hd (cs := #[.int .i64 0, .slice none 0 0, .slice none 0 0]) (t := 27) ?hr ?_; (case hd => rfl); (case hg => rfl); (case hr => first | (go_simp; done) | (go_simp; rfl)); intro gb546 hg w5 hbox hb; have BK546 := aM (hbox); have GW546 := gS HB hg; have GE546 := gS HB hg; replace HB := bS HB hb; have NB545_546 := nL BK545 hg; have NB546_545 := nR BK545 hg; replace BK545 := kB BK545 hb; clear hb hbox hg))
  replace BK545 := aM (bD BK545.o)
  replace BK546 := aM (bD BK546.o)
  replace HB := aM (below_drew1 HB.o)
  refine start_ (n := 13) (S := fun w' => w'.cell? ⟨gb545, 0, none⟩ = some (.int .i64 a0_0) ∧ w'.cell? ⟨gb545, 1, none⟩ = some (.slice A0_1 l0_1.length c0_1) ∧ w'.cell? ⟨gb545, 2, none⟩ = some (.slice A0_2 l0_2.length c0_2)) (ds := []) (bm 13 0) (by kernel_rfl) rfl (bm0 _) ⟨bc0 BK545, bc1 BK545, bc2 BK545⟩ (fun hK4 => ?_); refine with_tabW impl_DualOf.tab1 impl_DualOf.bits1 (fun HT_ HW_ => ?_)
  generalize w5.drew = w6 at BK545 BK546 HB hK4 ⊢
  refine pW 0 5 13 1 HT_ rfl rfl ?_
  refine pW 3 8 13 9 HT_ rfl rfl ?_
  refine pW 7 12 13 137 HT_ rfl rfl ?_
  refine tW 1 6 13 139 HT_ HW_ rfl rfl hK4 ?_
  refine tW 4 9 13 155 HT_ HW_ rfl rfl hK4 ?_
  refine tW 8 13 13 411 HT_ HW_ rfl rfl hK4 ?_
  refine join_ (σ := Value × Value × Value × Value × Nat) 1 (bm 13 4095) (fun s_ => [(7, s_.1), (10, s_.2.1), (11, s_.2.2.1), (14, s_.2.2.2.1), (3, .pointer (some ⟨s_.2.2.2.2, 0, none⟩)), (15, .agg #[.int .i64 a0_0, s_.2.1, s_.2.2.2.1])]) (fun s_ w' => (w'.cell? ⟨gb545, 0, none⟩ = some (.int .i64 a0_0) ∧ w'.cell? ⟨gb545, 1, none⟩ = some (.slice A0_1 l0_1.length c0_1) ∧ w'.cell? ⟨gb545, 2, none⟩ = some (.slice A0_2 l0_2.length c0_2)) ∧ (Kd.R Kd.bool 4 w' w.heap.size (fun _ => True) s_.2.1 y550) ∧ (Kd.R k46 46 w' w.heap.size (fun _ => True) s_.2.2.2.1 y556) ∧ (w'.heap[gb545]? = some (.cells #[.int .i64 a0_0, .slice A0_1 l0_1.length c0_1, .slice A0_2 l0_2.length c0_2] 27 (0, 0))) ∧ (w'.heap[gb546]? = some (.cells #[.int .i64 0, .slice none 0 0, .slice none 0 0] 27 (0, 0))) ∧ (w'.heap[s_.2.2.2.2]? = some (.cells #[.int .i64 0, .slice none 0 0, .slice none 0 0] 27 (0, 0))) ∧ (w.heap.size ≤ s_.2.2.2.2) ∧ (w.heap.size ≤ s_.2.2.2.2) ∧ (gb545 ≠ s_.2.2.2.2) ∧ (s_.2.2.2.2 ≠ gb545) ∧ (gb546 ≠ s_.2.2.2.2) ∧ (s_.2.2.2.2 ≠ gb546) ∧ (Below w.heap.size w w')) ?_ ?_
  rotate_left
  ·intro hJ2_5_6_9_11
   refine join_ (σ := Value × Value × Value × Value) 2 (bm 13 2047) (fun s_ => [(7, s_.1), (10, s_.2.1), (11, s_.2.2.1), (14, s_.2.2.2), (15, .agg #[.int .i64 a0_0, s_.2.1, s_.2.2.2])]) (fun s_ w' => (w'.cell? ⟨gb545, 0, none⟩ = some (.int .i64 a0_0) ∧ w'.cell? ⟨gb545, 1, none⟩ = some (.slice A0_1 l0_1.length c0_1) ∧ w'.cell? ⟨gb545, 2, none⟩ = some (.slice A0_2 l0_2.length c0_2)) ∧ (Kd.R Kd.bool 4 w' w.heap.size (fun _ => True) s_.2.1 y550) ∧ (Kd.R k46 46 w' w.heap.size (fun _ => True) s_.2.2.2 y556) ∧ (w'.heap[gb545]? = some (.cells #[.int .i64 a0_0, .slice A0_1 l0_1.length c0_1, .slice A0_2 l0_2.length c0_2] 27 (0, 0))) ∧ (w'.heap[gb546]? = some (.cells #[.int .i64 0, .slice none 0 0, .slice none 0 0] 27 (0, 0))) ∧ (Below w.heap.size w w')) ?_ ?_
   rotate_left
   ·intro hJ2_5_6_9
    refine join_ (σ := Value × Value × Value × Nat) 3 (bm 13 2559) (fun s_ => [(7, s_.1), (10, s_.2.1), (11, s_.2.2.1), (3, .pointer (some ⟨s_.2.2.2, 0, none⟩))]) (fun s_ w' => (w'.cell? ⟨gb545, 0, none⟩ = some (.int .i64 a0_0) ∧ w'.cell? ⟨gb545, 1, none⟩ = some (.slice A0_1 l0_1.length c0_1) ∧ w'.cell? ⟨gb545, 2, none⟩ = some (.slice A0_2 l0_2.length c0_2)) ∧ (Kd.R Kd.bool 4 w' w.heap.size (fun _ => True) s_.2.1 y550) ∧ (Kd.R k46 46 w' w.heap.size (fun _ => True) s_.2.2.1 y553) ∧ (w'.heap[gb545]? = some (.cells #[.int .i64 a0_0, .slice A0_1 l0_1.length c0_1, .slice A0_2 l0_2.length c0_2] 27 (0, 0))) ∧ (w'.heap[gb546]? = some (.cells #[.int .i64 0, .slice none 0 0, .slice none 0 0] 27 (0, 0))) ∧ (w'.heap[s_.2.2.2]? = some (.cells #[.int .i64 0, .slice none 0 0, .slice none 0 0] 27 (0, 0))) ∧ (w.heap.size ≤ s_.2.2.2) ∧ (w.heap.size ≤ s_.2.2.2) ∧ (gb545 ≠ s_.2.2.2) ∧ (s_.2.2.2 ≠ gb545) ∧ (gb546 ≠ s_.2.2.2) ∧ (s_.2.2.2 ≠ gb546) ∧ (Below w.heap.size w w')) ?_ ?_
    rotate_left
    ·intro hJ2_5_6_11
     refine join_ (σ := Value × Value × Value) 4 (bm 13 511) (fun s_ => [(7, s_.1), (10, s_.2.1), (11, s_.2.2)]) (fun s_ w' => (w'.cell? ⟨gb545, 0, none⟩ = some (.int .i64 a0_0) ∧ w'.cell? ⟨gb545, 1, none⟩ = some (.slice A0_1 l0_1.length c0_1) ∧ w'.cell? ⟨gb545, 2, none⟩ = some (.slice A0_2 l0_2.length c0_2)) ∧ (Kd.R Kd.bool 4 w' w.heap.size (fun _ => True) s_.2.1 y550) ∧ (Kd.R k46 46 w' w.heap.size (fun _ => True) s_.2.2 y553) ∧ (w'.heap[gb545]? = some (.cells #[.int .i64 a0_0, .slice A0_1 l0_1.length c0_1, .slice A0_2 l0_2.length c0_2] 27 (0, 0))) ∧ (w'.heap[gb546]? = some (.cells #[.int .i64 0, .slice none 0 0, .slice none 0 0] 27 (0, 0))) ∧ (Below w.heap.size w w')) ?_ ?_
     rotate_left
     ·intro hJ2_5_6
      refine join_ (σ := Value × Value × Nat) 4 (bm 13 2495) (fun s_ => [(7, s_.1), (10, s_.2.1), (3, .pointer (some ⟨s_.2.2, 0, none⟩))]) (fun s_ w' => (w'.cell? ⟨gb545, 0, none⟩ = some (.int .i64 a0_0) ∧ w'.cell? ⟨gb545, 1, none⟩ = some (.slice A0_1 l0_1.length c0_1) ∧ w'.cell? ⟨gb545, 2, none⟩ = some (.slice A0_2 l0_2.length c0_2)) ∧ (Kd.R Kd.bool 4 w' w.heap.size (fun _ => True) s_.2.1 y550) ∧ (w'.heap[gb545]? = some (.cells #[.int .i64 a0_0, .slice A0_1 l0_1.length c0_1, .slice A0_2 l0_2.length c0_2] 27 (0, 0))) ∧ (w'.heap[gb546]? = some (.cells #[.int .i64 0, .slice none 0 0, .slice none 0 0] 27 (0, 0))) ∧ (w'.heap[s_.2.2]? = some (.cells #[.int .i64 0, .slice none 0 0, .slice none 0 0] 27 (0, 0))) ∧ (w.heap.size ≤ s_.2.2) ∧ (w.heap.size ≤ s_.2.2) ∧ (gb545 ≠ s_.2.2) ∧ (s_.2.2 ≠ gb545) ∧ (gb546 ≠ s_.2.2) ∧ (s_.2.2 ≠ gb546) ∧ (Below w.heap.size w w')) ?_ ?_
      rotate_left
      ·intro hJ2_5_11
       refine join_ (σ := Value × Value × Nat) 4 (bm 13 2527) (fun s_ => [(7, s_.1), (11, s_.2.1), (3, .pointer (some ⟨s_.2.2, 0, none⟩))]) (fun s_ w' => (w'.cell? ⟨gb545, 0, none⟩ = some (.int .i64 a0_0) ∧ w'.cell? ⟨gb545, 1, none⟩ = some (.slice A0_1 l0_1.length c0_1) ∧ w'.cell? ⟨gb545, 2, none⟩ = some (.slice A0_2 l0_2.length c0_2)) ∧ (Kd.R Kd.bool 4 w' w.heap.size (fun _ => True) s_.1 y547) ∧ (Kd.R k46 46 w' w.heap.size (fun _ => True) s_.2.1 y553) ∧ (w'.heap[gb545]? = some (.cells #[.int .i64 a0_0, .slice A0_1 l0_1.length c0_1, .slice A0_2 l0_2.length c0_2] 27 (0, 0))) ∧ (w'.heap[gb546]? = some (.cells #[.int .i64 0, .slice none 0 0, .slice none 0 0] 27 (0, 0))) ∧ (w'.heap[s_.2.2]? = some (.cells #[.int .i64 0, .slice none 0 0, .slice none 0 0] 27 (0, 0))) ∧ (w.heap.size ≤ s_.2.2) ∧ (w.heap.size ≤ s_.2.2) ∧ (gb545 ≠ s_.2.2) ∧ (s_.2.2 ≠ gb545) ∧ (gb546 ≠ s_.2.2) ∧ (s_.2.2 ≠ gb546) ∧ (Below w.heap.size w w')) ?_ ?_
       rotate_left
       ·intro hJ2_6_11
        refine join_ (σ := Value × Value) 5 (bm 13 447) (fun s_ => [(7, s_.1), (10, s_.2)]) (fun s_ w' => (w'.cell? ⟨gb545, 0, none⟩ = some (.int .i64 a0_0) ∧ w'.cell? ⟨gb545, 1, none⟩ = some (.slice A0_1 l0_1.length c0_1) ∧ w'.cell? ⟨gb545, 2, none⟩ = some (.slice A0_2 l0_2.length c0_2)) ∧ (Kd.R Kd.bool 4 w' w.heap.size (fun _ => True) s_.2 y550) ∧ (w'.heap[gb545]? = some (.cells #[.int .i64 a0_0, .slice A0_1 l0_1.length c0_1, .slice A0_2 l0_2.length c0_2] 27 (0, 0))) ∧ (w'.heap[gb546]? = some (.cells #[.int .i64 0, .slice none 0 0, .slice none 0 0] 27 (0, 0))) ∧ (Below w.heap.size w w')) ?_ ?_
        rotate_left
        ·intro hJ2_5
         refine join_ (σ := Value × Value) 5 (bm 13 479) (fun s_ => [(7, s_.1), (11, s_.2)]) (fun s_ w' => (w'.cell? ⟨gb545, 0, none⟩ = some (.int .i64 a0_0) ∧ w'.cell? ⟨gb545, 1, none⟩ = some (.slice A0_1 l0_1.length c0_1) ∧ w'.cell? ⟨gb545, 2, none⟩ = some (.slice A0_2 l0_2.length c0_2)) ∧ (Kd.R Kd.bool 4 w' w.heap.size (fun _ => True) s_.1 y547) ∧ (Kd.R k46 46 w' w.heap.size (fun _ => True) s_.2 y553) ∧ (w'.heap[gb545]? = some (.cells #[.int .i64 a0_0, .slice A0_1 l0_1.length c0_1, .slice A0_2 l0_2.length c0_2] 27 (0, 0))) ∧ (w'.heap[gb546]? = some (.cells #[.int .i64 0, .slice none 0 0, .slice none 0 0] 27 (0, 0))) ∧ (Below w.heap.size w w')) ?_ ?_
         rotate_left
         ·intro hJ2_6
          refine join_ (σ := Value × Nat) 5 (bm 13 2463) (fun s_ => [(7, s_.1), (3, .pointer (some ⟨s_.2, 0, none⟩))]) (fun s_ w' => (w'.cell? ⟨gb545, 0, none⟩ = some (.int .i64 a0_0) ∧ w'.cell? ⟨gb545, 1, none⟩ = some (.slice A0_1 l0_1.length c0_1) ∧ w'.cell? ⟨gb545, 2, none⟩ = some (.slice A0_2 l0_2.length c0_2)) ∧ (Kd.R Kd.bool 4 w' w.heap.size (fun _ => True) s_.1 y547) ∧ (w'.heap[gb545]? = some (.cells #[.int .i64 a0_0, .slice A0_1 l0_1.length c0_1, .slice A0_2 l0_2.length c0_2] 27 (0, 0))) ∧ (w'.heap[gb546]? = some (.cells #[.int .i64 0, .slice none 0 0, .slice none 0 0] 27 (0, 0))) ∧ (w'.heap[s_.2]? = some (.cells #[.int .i64 0, .slice none 0 0, .slice none 0 0] 27 (0, 0))) ∧ (w.heap.size ≤ s_.2) ∧ (w.heap.size ≤ s_.2) ∧ (gb545 ≠ s_.2) ∧ (s_.2 ≠ gb545) ∧ (gb546 ≠ s_.2) ∧ (s_.2 ≠ gb546) ∧ (Below w.heap.size w w')) ?_ ?_
          rotate_left
          ·intro hJ2_11
           refine join_ (σ := Value × Nat) 5 (bm 13 2523) (fun s_ => [(11, s_.1), (3, .pointer (some ⟨s_.2, 0, none⟩))]) (fun s_ w' => (w'.cell? ⟨gb545, 0, none⟩ = some (.int .i64 a0_0) ∧ w'.cell? ⟨gb545, 1, none⟩ = some (.slice A0_1 l0_1.length c0_1) ∧ w'.cell? ⟨gb545, 2, none⟩ = some (.slice A0_2 l0_2.length c0_2)) ∧ (Kd.R k46 46 w' w.heap.size (fun _ => True) s_.1 y553) ∧ (w'.heap[gb545]? = some (.cells #[.int .i64 a0_0, .slice A0_1 l0_1.length c0_1, .slice A0_2 l0_2.length c0_2] 27 (0, 0))) ∧ (w'.heap[gb546]? = some (.cells #[.int .i64 0, .slice none 0 0, .slice none 0 0] 27 (0, 0))) ∧ (w'.heap[s_.2]? = some (.cells #[.int .i64 0, .slice none 0 0, .slice none 0 0] 27 (0, 0))) ∧ (w.heap.size ≤ s_.2) ∧ (w.heap.size ≤ s_.2) ∧ (gb545 ≠ s_.2) ∧ (s_.2 ≠ gb545) ∧ (gb546 ≠ s_.2) ∧ (s_.2 ≠ gb546) ∧ (Below w.heap.size w w')) ?_ ?_
           rotate_left
           ·intro hJ6_11
            refine join_ (σ := Value) 6 (bm 13 415) (fun s_ => [(7, s_)]) (fun s_ w' => (w'.cell? ⟨gb545, 0, none⟩ = some (.int .i64 a0_0) ∧ w'.cell? ⟨gb545, 1, none⟩ = some (.slice A0_1 l0_1.length c0_1) ∧ w'.cell? ⟨gb545, 2, none⟩ = some (.slice A0_2 l0_2.length c0_2)) ∧ (Kd.R Kd.bool 4 w' w.heap.size (fun _ => True) s_ y547) ∧ (w'.heap[gb545]? = some (.cells #[.int .i64 a0_0, .slice A0_1 l0_1.length c0_1, .slice A0_2 l0_2.length c0_2] 27 (0, 0))) ∧ (w'.heap[gb546]? = some (.cells #[.int .i64 0, .slice none 0 0, .slice none 0 0] 27 (0, 0))) ∧ (Below w.heap.size w w')) ?_ ?_
            rotate_left
            ·intro hJ2
             refine join_ (σ := Value) 6 (bm 13 475) (fun s_ => [(11, s_)]) (fun s_ w' => (w'.cell? ⟨gb545, 0, none⟩ = some (.int .i64 a0_0) ∧ w'.cell? ⟨gb545, 1, none⟩ = some (.slice A0_1 l0_1.length c0_1) ∧ w'.cell? ⟨gb545, 2, none⟩ = some (.slice A0_2 l0_2.length c0_2)) ∧ (Kd.R k46 46 w' w.heap.size (fun _ => True) s_ y553) ∧ (w'.heap[gb545]? = some (.cells #[.int .i64 a0_0, .slice A0_1 l0_1.length c0_1, .slice A0_2 l0_2.length c0_2] 27 (0, 0))) ∧ (w'.heap[gb546]? = some (.cells #[.int .i64 0, .slice none 0 0, .slice none 0 0] 27 (0, 0))) ∧ (Below w.heap.size w w')) ?_ ?_
             rotate_left
             ·intro hJ6
              refine join_ (σ := Nat) 6 (bm 13 2459) (fun s_ => [(3, .pointer (some ⟨s_, 0, none⟩))]) (fun s_ w' => (w'.cell? ⟨gb545, 0, none⟩ = some (.int .i64 a0_0) ∧ w'.cell? ⟨gb545, 1, none⟩ = some (.slice A0_1 l0_1.length c0_1) ∧ w'.cell? ⟨gb545, 2, none⟩ = some (.slice A0_2 l0_2.length c0_2)) ∧ (w'.heap[gb545]? = some (.cells #[.int .i64 a0_0, .slice A0_1 l0_1.length c0_1, .slice A0_2 l0_2.length c0_2] 27 (0, 0))) ∧ (w'.heap[gb546]? = some (.cells #[.int .i64 0, .slice none 0 0, .slice none 0 0] 27 (0, 0))) ∧ (w'.heap[s_]? = some (.cells #[.int .i64 0, .slice none 0 0, .slice none 0 0] 27 (0, 0))) ∧ (w.heap.size ≤ s_) ∧ (w.heap.size ≤ s_) ∧ (gb545 ≠ s_) ∧ (s_ ≠ gb545) ∧ (gb546 ≠ s_) ∧ (s_ ≠ gb546) ∧ (Below w.heap.size w w')) ?_ ?_
              rotate_left
              ·intro hJ11
               refine three_ (i := 2) (j := 6) (k := 11) (Ni := some 7) (Nj := some 11) (Nk := some 3) (bm 13 415) (bm 13 475) (bm 13 2459) rfl rfl rfl rfl rfl rfl (three_of HT_.o (by kernel_rfl)) (by decide) (by decide) (by decide) (fun K hK => ?_) (fun K hK => ?_) (fun K hK => ?_)
               ·skip
                refine Kd.R_lit_step Kd.bool _ 4 ?hg (N := 7) ?hd (xs := ([] : List Bool)) (inner := []) (ok := fun _ => True) (okp := fun _ => True) ?hr ?hp (fun _ hk => hk) trivial (Below.refl _ _) (Nat.le_refl _) (by simp) ?_; (case hd => rfl); (case hg => rfl); (case hr => first | (go_simp; done) | (go_simp; rfl)); (case hp => exact (Reps.none _ _))
                intro v548 w7 ho8 hb hg_ hnew_
                clear hg_ hnew_
                (first | rw [← Ny547.o] at ho8 | (simp only [Int.reduceToNat] at ho8; rw [← Ny547.o] at ho8))
                have HO549 := aM (rO ho8 (bZ (zB HB)))
                replace BK545 := kB BK545 hb
                replace BK546 := kB BK546 hb
                replace HB := bS HB hb
                clear hb ho8
                refine hK.out _ _ ⟨bc0 BK545, bc1 BK545, bc2 BK545⟩ (fun hK4 => ?_)
                clear hK K
                refine nU 7 ?_
                exact norm_ (by first | (simp only [putAll, Act.put, lA, lB, lC]; done) | (simp only [putAll, Act.put, lA, lB, lC]; rfl)) (hJ2 (v548) _ ⟨hK4, (zR HO549), (zK BK545), (zK BK546), (zB HB)⟩)
               ·skip
                refine Kd.R_lit_step k46 _ 46 ?hg (N := 11) ?hd (xs := ([] : List (S46))) (inner := []) (ok := fun _ => True) (okp := fun _ => True) ?hr ?hp (fun _ hk => hk) trivial (Below.refl _ _) (Nat.le_refl _) (by simp) ?_; (case hd => rfl); (case hg => rfl); (case hr => first | (go_simp; done) | (go_simp; rfl)); (case hp => exact (Reps.none _ _))
                intro v554 w7 ho8 hb hg_ hnew_
                clear hg_ hnew_
                (first | rw [← Ny553.o] at ho8 | (simp only [Int.reduceToNat] at ho8; rw [← Ny553.o] at ho8))
                have HO555 := aM (rO ho8 (bZ (zB HB)))
                replace BK545 := kB BK545 hb
                replace BK546 := kB BK546 hb
                replace HB := bS HB hb
                clear hb ho8
                refine hK.out _ _ ⟨bc0 BK545, bc1 BK545, bc2 BK545⟩ (fun hK4 => ?_)
                clear hK K
                refine nU 11 ?_
                exact norm_ (by first | (simp only [putAll, Act.put, lA, lB, lC]; done) | (simp only [putAll, Act.put, lA, lB, lC]; rfl)) (hJ6 (v554) _ ⟨hK4, (zR HO555), (zK BK545), (zK BK546), (zB HB)⟩)
               ·skip
                refine box_step ?hg (N := 3) ?hd (cs := #[.int .i64 0, .slice none 0 0, .slice none 0 0]) (t := 27) ?hr ?_; (case hd => rfl); (case hg => rfl); (case hr => first | (go_simp; done) | (go_simp; rfl))
                intro gb559 hg w7 hbox hb
                have BK559 := aM (hbox)
                have GW559 := gS HB hg
                have GE559 := gS HB hg
                replace HB := bS HB hb
                have NB545_559 := nL BK545 hg
                have NB559_545 := nR BK545 hg
                replace BK545 := kB BK545 hb
                have NB546_559 := nL BK546 hg
                have NB559_546 := nR BK546 hg
                replace BK546 := kB BK546 hb
                clear hb hbox hg
                refine hK.out _ _ ⟨bc0 BK545, bc1 BK545, bc2 BK545⟩ (fun hK4 => ?_)
                clear hK K
                refine nU 3 ?_
                exact norm_ (by first | (simp only [putAll, Act.put, lA, lB, lC]; done) | (simp only [putAll, Act.put, lA, lB, lC]; rfl)) (hJ11 (gb559) _ ⟨hK4, (zK BK545), (zK BK546), (zK BK559), GW559.o, GE559.o, NB545_559.o, NB559_545.o, NB546_559.o, NB559_546.o, (zB HB)⟩)
              ·skip
               rintro gb559 w8 ⟨hS_, h0_, h1_, h2_, h3_, h4_, h5_, h6_, h7_, h8_, h9_⟩
               replace BK545 : Aside0 (w8.heap[gb545]? = some (.cells #[.int .i64 a0_0, .slice A0_1 l0_1.length c0_1, .slice A0_2 l0_2.length c0_2] 27 (0, 0))) := ⟨h0_⟩
               replace BK546 : Aside0 (w8.heap[gb546]? = some (.cells #[.int .i64 0, .slice none 0 0, .slice none 0 0] 27 (0, 0))) := ⟨h1_⟩
               have BK559 : Aside0 (w8.heap[gb559]? = some (.cells #[.int .i64 0, .slice none 0 0, .slice none 0 0] 27 (0, 0))) := ⟨h2_⟩
               have GW559 : Aside0 (w.heap.size ≤ gb559) := ⟨h3_⟩
               have GE559 : Aside0 (w.heap.size ≤ gb559) := ⟨h4_⟩
               have NB545_559 : Aside0 (gb545 ≠ gb559) := ⟨h5_⟩
               have NB559_545 : Aside0 (gb559 ≠ gb545) := ⟨h6_⟩
               have NB546_559 : Aside0 (gb546 ≠ gb559) := ⟨h7_⟩
               have NB559_546 : Aside0 (gb559 ≠ gb546) := ⟨h8_⟩
               replace HB : Aside0 (Below w.heap.size w w8) := ⟨h9_⟩
               clear h0_ h1_ h2_ h3_ h4_ h5_ h6_ h7_ h8_ h9_
               have hK4 : w8.cell? ⟨gb545, 0, none⟩ = some (.int .i64 a0_0) ∧ w8.cell? ⟨gb545, 1, none⟩ = some (.slice A0_1 l0_1.length c0_1) ∧ w8.cell? ⟨gb545, 2, none⟩ = some (.slice A0_2 l0_2.length c0_2) := hS_
               refine norm_ (a' := ?_) ?_ ?_
               rotate_left
               ·simp only [putAll, Act.put, lA, lB, lC]
                rfl
               refine two_ (i := 2) (j := 6) (Ni := some 7) (Nj := some 11) (bm 13 2463) (bm 13 2523) rfl rfl rfl rfl (two_of HT_.o (by kernel_rfl)) (by decide) (by decide) (fun K hK => ?_) (fun K hK => ?_)
               ·skip
                refine Kd.R_lit_step Kd.bool _ 4 ?hg (N := 7) ?hd (xs := ([] : List Bool)) (inner := []) (ok := fun _ => True) (okp := fun _ => True) ?hr ?hp (fun _ hk => hk) trivial (Below.refl _ _) (Nat.le_refl _) (by simp) ?_; (case hd => rfl); (case hg => rfl); (case hr => first | (go_simp; done) | (go_simp; rfl)); (case hp => exact (Reps.none _ _))
                intro v548 w9 ho10 hb hg_ hnew_
                clear hg_ hnew_
                (first | rw [← Ny547.o] at ho10 | (simp only [Int.reduceToNat] at ho10; rw [← Ny547.o] at ho10))
                have HO549 := aM (rO ho10 (bZ (zB HB)))
                replace BK545 := kB BK545 hb
                replace BK546 := kB BK546 hb
                replace BK559 := kB BK559 hb
                replace HB := bS HB hb
                clear hb ho10
                refine hK.out _ _ ⟨bc0 BK545, bc1 BK545, bc2 BK545⟩ (fun hK4 => ?_)
                clear hK K
                refine nU 7 ?_
                exact norm_ (by first | (simp only [putAll, Act.put, lA, lB, lC]; done) | (simp only [putAll, Act.put, lA, lB, lC]; rfl)) (hJ2_11 (v548, gb559) _ ⟨hK4, (zR HO549), (zK BK545), (zK BK546), (zK BK559), GW559.o, GE559.o, NB545_559.o, NB559_545.o, NB546_559.o, NB559_546.o, (zB HB)⟩)
               ·skip
                refine Kd.R_lit_step k46 _ 46 ?hg (N := 11) ?hd (xs := ([] : List (S46))) (inner := []) (ok := fun _ => True) (okp := fun _ => True) ?hr ?hp (fun _ hk => hk) trivial (Below.refl _ _) (Nat.le_refl _) (by simp) ?_; (case hd => rfl); (case hg => rfl); (case hr => first | (go_simp; done) | (go_simp; rfl)); (case hp => exact (Reps.none _ _))
                intro v554 w9 ho10 hb hg_ hnew_
                clear hg_ hnew_
                (first | rw [← Ny553.o] at ho10 | (simp only [Int.reduceToNat] at ho10; rw [← Ny553.o] at ho10))
                have HO555 := aM (rO ho10 (bZ (zB HB)))
                replace BK545 := kB BK545 hb
                replace BK546 := kB BK546 hb
                replace BK559 := kB BK559 hb
                replace HB := bS HB hb
                clear hb ho10
                refine hK.out _ _ ⟨bc0 BK545, bc1 BK545, bc2 BK545⟩ (fun hK4 => ?_)
                clear hK K
                refine nU 11 ?_
                exact norm_ (by first | (simp only [putAll, Act.put, lA, lB, lC]; done) | (simp only [putAll, Act.put, lA, lB, lC]; rfl)) (hJ6_11 (v554, gb559) _ ⟨hK4, (zR HO555), (zK BK545), (zK BK546), (zK BK559), GW559.o, GE559.o, NB545_559.o, NB559_545.o, NB546_559.o, NB559_546.o, (zB HB)⟩)
             ·skip
              rintro v554 w9 ⟨hS_, h0_, h1_, h2_, h3_⟩
              have HO555 : Aside0 (Kd.R k46 46 w9 w.heap.size (fun _ => True) v554 y553) := ⟨h0_⟩
              replace BK545 : Aside0 (w9.heap[gb545]? = some (.cells #[.int .i64 a0_0, .slice A0_1 l0_1.length c0_1, .slice A0_2 l0_2.length c0_2] 27 (0, 0))) := ⟨h1_⟩
              replace BK546 : Aside0 (w9.heap[gb546]? = some (.cells #[.int .i64 0, .slice none 0 0, .slice none 0 0] 27 (0, 0))) := ⟨h2_⟩
              replace HB : Aside0 (Below w.heap.size w w9) := ⟨h3_⟩
              clear h0_ h1_ h2_ h3_
              have hK4 : w9.cell? ⟨gb545, 0, none⟩ = some (.int .i64 a0_0) ∧ w9.cell? ⟨gb545, 1, none⟩ = some (.slice A0_1 l0_1.length c0_1) ∧ w9.cell? ⟨gb545, 2, none⟩ = some (.slice A0_2 l0_2.length c0_2) := hS_
              refine norm_ (a' := ?_) ?_ ?_
              rotate_left
              ·simp only [putAll, Act.put, lA, lB, lC]
               rfl
              refine two_ (i := 2) (j := 11) (Ni := some 7) (Nj := some 3) (bm 13 479) (bm 13 2523) rfl rfl rfl rfl (two_of HT_.o (by kernel_rfl)) (by decide) (by decide) (fun K hK => ?_) (fun K hK => ?_)
              ·skip
               refine Kd.R_lit_step Kd.bool _ 4 ?hg (N := 7) ?hd (xs := ([] : List Bool)) (inner := []) (ok := fun _ => True) (okp := fun _ => True) ?hr ?hp (fun _ hk => hk) trivial (Below.refl _ _) (Nat.le_refl _) (by simp) ?_; (case hd => rfl); (case hg => rfl); (case hr => first | (go_simp; done) | (go_simp; rfl)); (case hp => exact (Reps.none _ _))
               intro v548 w10 ho11 hb hg_ hnew_
               clear hg_ hnew_
               (first | rw [← Ny547.o] at ho11 | (simp only [Int.reduceToNat] at ho11; rw [← Ny547.o] at ho11))
               replace HO555 := aM (rW (zR HO555) hb)
               have HO549 := aM (rO ho11 (bZ (zB HB)))
               replace BK545 := kB BK545 hb
               replace BK546 := kB BK546 hb
               replace HB := bS HB hb
               clear hb ho11
               refine hK.out _ _ ⟨bc0 BK545, bc1 BK545, bc2 BK545⟩ (fun hK4 => ?_)
               clear hK K
               refine nU 7 ?_
               exact norm_ (by first | (simp only [putAll, Act.put, lA, lB, lC]; done) | (simp only [putAll, Act.put, lA, lB, lC]; rfl)) (hJ2_6 (v548, v554) _ ⟨hK4, (zR HO549), (zR HO555), (zK BK545), (zK BK546), (zB HB)⟩)
              ·skip
               refine box_step ?hg (N := 3) ?hd (cs := #[.int .i64 0, .slice none 0 0, .slice none 0 0]) (t := 27) ?hr ?_; (case hd => rfl); (case hg => rfl); (case hr => first | (go_simp; done) | (go_simp; rfl))
               intro gb559 hg w10 hbox hb
               replace HO555 := aM (rW (zR HO555) hb)
               have BK559 := aM (hbox)
               have GW559 := gS HB hg
               have GE559 := gS HB hg
               replace HB := bS HB hb
               have NB545_559 := nL BK545 hg
               have NB559_545 := nR BK545 hg
               replace BK545 := kB BK545 hb
               have NB546_559 := nL BK546 hg
               have NB559_546 := nR BK546 hg
               replace BK546 := kB BK546 hb
               clear hb hbox hg
               refine hK.out _ _ ⟨bc0 BK545, bc1 BK545, bc2 BK545⟩ (fun hK4 => ?_)
               clear hK K
               refine nU 3 ?_
               exact norm_ (by first | (simp only [putAll, Act.put, lA, lB, lC]; done) | (simp only [putAll, Act.put, lA, lB, lC]; rfl)) (hJ6_11 (v554, gb559) _ ⟨hK4, (zR HO555), (zK BK545), (zK BK546), (zK BK559), GW559.o, GE559.o, NB545_559.o, NB559_545.o, NB546_559.o, NB559_546.o, (zB HB)⟩)
            ·skip
             rintro v548 w9 ⟨hS_, h0_, h1_, h2_, h3_⟩
             have HO549 : Aside0 (Kd.R Kd.bool 4 w9 w.heap.size (fun _ => True) v548 y547) := ⟨h0_⟩
             replace BK545 : Aside0 (w9.heap[gb545]? = some (.cells #[.int .i64 a0_0, .slice A0_1 l0_1.length c0_1, .slice A0_2 l0_2.length c0_2] 27 (0, 0))) := ⟨h1_⟩
             replace BK546 : Aside0 (w9.heap[gb546]? = some (.cells #[.int .i64 0, .slice none 0 0, .slice none 0 0] 27 (0, 0))) := ⟨h2_⟩
             replace HB : Aside0 (Below w.heap.size w w9) := ⟨h3_⟩
             clear h0_ h1_ h2_ h3_
             have hK4 : w9.cell? ⟨gb545, 0, none⟩ = some (.int .i64 a0_0) ∧ w9.cell? ⟨gb545, 1, none⟩ = some (.slice A0_1 l0_1.length c0_1) ∧ w9.cell? ⟨gb545, 2, none⟩ = some (.slice A0_2 l0_2.length c0_2) := hS_
             refine norm_ (a' := ?_) ?_ ?_
             rotate_left
             ·simp only [putAll, Act.put, lA, lB, lC]
              rfl
             refine three_ (i := 5) (j := 6) (k := 11) (Ni := some 10) (Nj := some 11) (Nk := some 3) (bm 13 447) (bm 13 479) (bm 13 2463) rfl rfl rfl rfl rfl rfl (three_of HT_.o (by kernel_rfl)) (by decide) (by decide) (by decide) (fun K hK => ?_) (fun K hK => ?_) (fun K hK => ?_)
             ·skip
              refine Kd.R_append_rows_step Kd.bool (w0 := w) w.heap.size (by rfl) (.tmp 7) (.tmp 9) 24 4 (.bool false) 1 rfl Try.underlying24 info4 rfl (by decide) (by omega) v548 y547 l0_1 _ _ _ (fun _ => True) (fun _ => False) rfl rfl ?aO ?aR (fun _ _ h => h) (fun _ h => h.elim) ?aF ?aB ?aS ?aL ?_
              (case aR => repeat (first | exact (Kd.C_below HR0_1.o HB.o) | (with_reducible refine qA ?_ _) | (with_reducible refine qN ?_ _) | (with_reducible refine qD ?_)))
              (case aB => exact (zB HB))
              (case aF => exact (fun _ _ => trivial))
              (case aO => exact (zR HO549))
              (case aS => exact (bZ (zB HB)))
              (case aL => have := LMc2.o; omega)
              intro v551 w10 ho hb hg hat
              rw [← Ny550.o] at ho
              replace BK545 := aM (blk_grown (g := gb545) (o := .cells #[.int .i64 a0_0, .slice A0_1 l0_1.length c0_1, .slice A0_2 l0_2.length c0_2] 27 (0, 0)) (zK BK545) hg (Kd.R_ne HO549.o BK545.o (by decide)))
              replace BK546 := aM (blk_grown (g := gb546) (o := .cells #[.int .i64 0, .slice none 0 0, .slice none 0 0] 27 (0, 0)) (zK BK546) hg (Kd.R_ne HO549.o BK546.o (by decide)))
              replace HB := aM (hb)
              have HO552 := aM (ho)
              clear HO549
              clear ho hb hg hat
              refine hK.out _ _ ⟨bc0 BK545, bc1 BK545, bc2 BK545⟩ (fun hK4 => ?_)
              clear hK K
              refine nU 10 ?_
              exact norm_ (by first | (simp only [putAll, Act.put, lA, lB, lC]; done) | (simp only [putAll, Act.put, lA, lB, lC]; rfl)) (hJ2_5 (v548, v551) _ ⟨hK4, (zR HO552), (zK BK545), (zK BK546), (zB HB)⟩)
             ·skip
              refine Kd.R_lit_step k46 _ 46 ?hg (N := 11) ?hd (xs := ([] : List (S46))) (inner := []) (ok := fun _ => True) (okp := fun _ => True) ?hr ?hp (fun _ hk => hk) trivial (Below.refl _ _) (Nat.le_refl _) (by simp) ?_; (case hd => rfl); (case hg => rfl); (case hr => first | (go_simp; done) | (go_simp; rfl)); (case hp => exact (Reps.none _ _))
              intro v554 w10 ho11 hb hg_ hnew_
              clear hg_ hnew_
              (first | rw [← Ny553.o] at ho11 | (simp only [Int.reduceToNat] at ho11; rw [← Ny553.o] at ho11))
              replace HO549 := aM (rW (zR HO549) hb)
              have HO555 := aM (rO ho11 (bZ (zB HB)))
              replace BK545 := kB BK545 hb
              replace BK546 := kB BK546 hb
              replace HB := bS HB hb
              clear hb ho11
              refine hK.out _ _ ⟨bc0 BK545, bc1 BK545, bc2 BK545⟩ (fun hK4 => ?_)
              clear hK K
              refine nU 11 ?_
              exact norm_ (by first | (simp only [putAll, Act.put, lA, lB, lC]; done) | (simp only [putAll, Act.put, lA, lB, lC]; rfl)) (hJ2_6 (v548, v554) _ ⟨hK4, (zR HO549), (zR HO555), (zK BK545), (zK BK546), (zB HB)⟩)
             ·skip
              refine box_step ?hg (N := 3) ?hd (cs := #[.int .i64 0, .slice none 0 0, .slice none 0 0]) (t := 27) ?hr ?_; (case hd => rfl); (case hg => rfl); (case hr => first | (go_simp; done) | (go_simp; rfl))
              intro gb559 hg w10 hbox hb
              replace HO549 := aM (rW (zR HO549) hb)
              have BK559 := aM (hbox)
              have GW559 := gS HB hg
              have GE559 := gS HB hg
              replace HB := bS HB hb
              have NB545_559 := nL BK545 hg
              have NB559_545 := nR BK545 hg
              replace BK545 := kB BK545 hb
              have NB546_559 := nL BK546 hg
              have NB559_546 := nR BK546 hg
              replace BK546 := kB BK546 hb
              clear hb hbox hg
              refine hK.out _ _ ⟨bc0 BK545, bc1 BK545, bc2 BK545⟩ (fun hK4 => ?_)
              clear hK K
              refine nU 3 ?_
              exact norm_ (by first | (simp only [putAll, Act.put, lA, lB, lC]; done) | (simp only [putAll, Act.put, lA, lB, lC]; rfl)) (hJ2_11 (v548, gb559) _ ⟨hK4, (zR HO549), (zK BK545), (zK BK546), (zK BK559), GW559.o, GE559.o, NB545_559.o, NB559_545.o, NB546_559.o, NB559_546.o, (zB HB)⟩)
           ·skip
            rintro ⟨v554, gb559⟩ w10 ⟨hS_, h0_, h1_, h2_, h3_, h4_, h5_, h6_, h7_, h8_, h9_, h10_⟩
            have HO555 : Aside0 (Kd.R k46 46 w10 w.heap.size (fun _ => True) v554 y553) := ⟨h0_⟩
            replace BK545 : Aside0 (w10.heap[gb545]? = some (.cells #[.int .i64 a0_0, .slice A0_1 l0_1.length c0_1, .slice A0_2 l0_2.length c0_2] 27 (0, 0))) := ⟨h1_⟩
            replace BK546 : Aside0 (w10.heap[gb546]? = some (.cells #[.int .i64 0, .slice none 0 0, .slice none 0 0] 27 (0, 0))) := ⟨h2_⟩
            have BK559 : Aside0 (w10.heap[gb559]? = some (.cells #[.int .i64 0, .slice none 0 0, .slice none 0 0] 27 (0, 0))) := ⟨h3_⟩
            have GW559 : Aside0 (w.heap.size ≤ gb559) := ⟨h4_⟩
            have GE559 : Aside0 (w.heap.size ≤ gb559) := ⟨h5_⟩
            have NB545_559 : Aside0 (gb545 ≠ gb559) := ⟨h6_⟩
            have NB559_545 : Aside0 (gb559 ≠ gb545) := ⟨h7_⟩
            have NB546_559 : Aside0 (gb546 ≠ gb559) := ⟨h8_⟩
            have NB559_546 : Aside0 (gb559 ≠ gb546) := ⟨h9_⟩
            replace HB : Aside0 (Below w.heap.size w w10) := ⟨h10_⟩
            clear h0_ h1_ h2_ h3_ h4_ h5_ h6_ h7_ h8_ h9_ h10_
            have hK4 : w10.cell? ⟨gb545, 0, none⟩ = some (.int .i64 a0_0) ∧ w10.cell? ⟨gb545, 1, none⟩ = some (.slice A0_1 l0_1.length c0_1) ∧ w10.cell? ⟨gb545, 2, none⟩ = some (.slice A0_2 l0_2.length c0_2) := hS_
            refine norm_ (a' := ?_) ?_ ?_
            rotate_left
            ·simp only [putAll, Act.put, lA, lB, lC]
             rfl
            refine one_ (i := 2) (N := some 7) (bm 13 2527) rfl rfl (one_of HT_.o (by kernel_rfl)) (by decide) (fun K hK => ?_)
            refine Kd.R_lit_step Kd.bool _ 4 ?hg (N := 7) ?hd (xs := ([] : List Bool)) (inner := []) (ok := fun _ => True) (okp := fun _ => True) ?hr ?hp (fun _ hk => hk) trivial (Below.refl _ _) (Nat.le_refl _) (by simp) ?_; (case hd => rfl); (case hg => rfl); (case hr => first | (go_simp; done) | (go_simp; rfl)); (case hp => exact (Reps.none _ _))
            intro v548 w11 ho12 hb hg_ hnew_
            clear hg_ hnew_
            (first | rw [← Ny547.o] at ho12 | (simp only [Int.reduceToNat] at ho12; rw [← Ny547.o] at ho12))
            replace HO555 := aM (rW (zR HO555) hb)
            have HO549 := aM (rO ho12 (bZ (zB HB)))
            replace BK545 := kB BK545 hb
            replace BK546 := kB BK546 hb
            replace BK559 := kB BK559 hb
            replace HB := bS HB hb
            clear hb ho12
            refine hK.out _ _ ⟨bc0 BK545, bc1 BK545, bc2 BK545⟩ (fun hK4 => ?_)
            clear hK K
            refine nU 7 ?_
            exact norm_ (by first | (simp only [putAll, Act.put, lA, lB, lC]; done) | (simp only [putAll, Act.put, lA, lB, lC]; rfl)) (hJ2_6_11 (v548, v554, gb559) _ ⟨hK4, (zR HO549), (zR HO555), (zK BK545), (zK BK546), (zK BK559), GW559.o, GE559.o, NB545_559.o, NB559_545.o, NB546_559.o, NB559_546.o, (zB HB)⟩)
          ·skip
           rintro ⟨v548, gb559⟩ w10 ⟨hS_, h0_, h1_, h2_, h3_, h4_, h5_, h6_, h7_, h8_, h9_, h10_⟩
           have HO549 : Aside0 (Kd.R Kd.bool 4 w10 w.heap.size (fun _ => True) v548 y547) := ⟨h0_⟩
           replace BK545 : Aside0 (w10.heap[gb545]? = some (.cells #[.int .i64 a0_0, .slice A0_1 l0_1.length c0_1, .slice A0_2 l0_2.length c0_2] 27 (0, 0))) := ⟨h1_⟩
           replace BK546 : Aside0 (w10.heap[gb546]? = some (.cells #[.int .i64 0, .slice none 0 0, .slice none 0 0] 27 (0, 0))) := ⟨h2_⟩
           have BK559 : Aside0 (w10.heap[gb559]? = some (.cells #[.int .i64 0, .slice none 0 0, .slice none 0 0] 27 (0, 0))) := ⟨h3_⟩
           have GW559 : Aside0 (w.heap.size ≤ gb559) := ⟨h4_⟩
           have GE559 : Aside0 (w.heap.size ≤ gb559) := ⟨h5_⟩
           have NB545_559 : Aside0 (gb545 ≠ gb559) := ⟨h6_⟩
           have NB559_545 : Aside0 (gb559 ≠ gb545) := ⟨h7_⟩
           have NB546_559 : Aside0 (gb546 ≠ gb559) := ⟨h8_⟩
           have NB559_546 : Aside0 (gb559 ≠ gb546) := ⟨h9_⟩
           replace HB : Aside0 (Below w.heap.size w w10) := ⟨h10_⟩
           clear h0_ h1_ h2_ h3_ h4_ h5_ h6_ h7_ h8_ h9_ h10_
           have hK4 : w10.cell? ⟨gb545, 0, none⟩ = some (.int .i64 a0_0) ∧ w10.cell? ⟨gb545, 1, none⟩ = some (.slice A0_1 l0_1.length c0_1) ∧ w10.cell? ⟨gb545, 2, none⟩ = some (.slice A0_2 l0_2.length c0_2) := hS_
           refine norm_ (a' := ?_) ?_ ?_
           rotate_left
           ·simp only [putAll, Act.put, lA, lB, lC]
            rfl
           refine two_ (i := 5) (j := 6) (Ni := some 10) (Nj := some 11) (bm 13 2495) (bm 13 2527) rfl rfl rfl rfl (two_of HT_.o (by kernel_rfl)) (by decide) (by decide) (fun K hK => ?_) (fun K hK => ?_)
           ·skip
            refine Kd.R_append_rows_step Kd.bool (w0 := w) w.heap.size (by rfl) (.tmp 7) (.tmp 9) 24 4 (.bool false) 1 rfl Try.underlying24 info4 rfl (by decide) (by omega) v548 y547 l0_1 _ _ _ (fun _ => True) (fun _ => False) rfl rfl ?aO ?aR (fun _ _ h => h) (fun _ h => h.elim) ?aF ?aB ?aS ?aL ?_
            (case aR => repeat (first | exact (Kd.C_below HR0_1.o HB.o) | (with_reducible refine qA ?_ _) | (with_reducible refine qN ?_ _) | (with_reducible refine qD ?_)))
            (case aB => exact (zB HB))
            (case aF => exact (fun _ _ => trivial))
            (case aO => exact (zR HO549))
            (case aS => exact (bZ (zB HB)))
            (case aL => have := LMc2.o; omega)
            intro v551 w11 ho hb hg hat
            rw [← Ny550.o] at ho
            replace BK545 := aM (blk_grown (g := gb545) (o := .cells #[.int .i64 a0_0, .slice A0_1 l0_1.length c0_1, .slice A0_2 l0_2.length c0_2] 27 (0, 0)) (zK BK545) hg (Kd.R_ne HO549.o BK545.o (by decide)))
            replace BK546 := aM (blk_grown (g := gb546) (o := .cells #[.int .i64 0, .slice none 0 0, .slice none 0 0] 27 (0, 0)) (zK BK546) hg (Kd.R_ne HO549.o BK546.o (by decide)))
            replace BK559 := aM (blk_grown (g := gb559) (o := .cells #[.int .i64 0, .slice none 0 0, .slice none 0 0] 27 (0, 0)) (zK BK559) hg (Kd.R_ne HO549.o BK559.o (by decide)))
            replace HB := aM (hb)
            have HO552 := aM (ho)
            clear HO549
            clear ho hb hg hat
            refine hK.out _ _ ⟨bc0 BK545, bc1 BK545, bc2 BK545⟩ (fun hK4 => ?_)
            clear hK K
            refine nU 10 ?_
            exact norm_ (by first | (simp only [putAll, Act.put, lA, lB, lC]; done) | (simp only [putAll, Act.put, lA, lB, lC]; rfl)) (hJ2_5_11 (v548, v551, gb559) _ ⟨hK4, (zR HO552), (zK BK545), (zK BK546), (zK BK559), GW559.o, GE559.o, NB545_559.o, NB559_545.o, NB546_559.o, NB559_546.o, (zB HB)⟩)
           ·skip
            refine Kd.R_lit_step k46 _ 46 ?hg (N := 11) ?hd (xs := ([] : List (S46))) (inner := []) (ok := fun _ => True) (okp := fun _ => True) ?hr ?hp (fun _ hk => hk) trivial (Below.refl _ _) (Nat.le_refl _) (by simp) ?_; (case hd => rfl); (case hg => rfl); (case hr => first | (go_simp; done) | (go_simp; rfl)); (case hp => exact (Reps.none _ _))
            intro v554 w11 ho12 hb hg_ hnew_
            clear hg_ hnew_
            (first | rw [← Ny553.o] at ho12 | (simp only [Int.reduceToNat] at ho12; rw [← Ny553.o] at ho12))
            replace HO549 := aM (rW (zR HO549) hb)
            have HO555 := aM (rO ho12 (bZ (zB HB)))
            replace BK545 := kB BK545 hb
            replace BK546 := kB BK546 hb
            replace BK559 := kB BK559 hb
            replace HB := bS HB hb
            clear hb ho12
            refine hK.out _ _ ⟨bc0 BK545, bc1 BK545, bc2 BK545⟩ (fun hK4 => ?_)
            clear hK K
            refine nU 11 ?_
            exact norm_ (by first | (simp only [putAll, Act.put, lA, lB, lC]; done) | (simp only [putAll, Act.put, lA, lB, lC]; rfl)) (hJ2_6_11 (v548, v554, gb559) _ ⟨hK4, (zR HO549), (zR HO555), (zK BK545), (zK BK546), (zK BK559), GW559.o, GE559.o, NB545_559.o, NB559_545.o, NB546_559.o, NB559_546.o, (zB HB)⟩)
         ·skip
          rintro ⟨v548, v554⟩ w11 ⟨hS_, h0_, h1_, h2_, h3_, h4_⟩
          have HO549 : Aside0 (Kd.R Kd.bool 4 w11 w.heap.size (fun _ => True) v548 y547) := ⟨h0_⟩
          have HO555 : Aside0 (Kd.R k46 46 w11 w.heap.size (fun _ => True) v554 y553) := ⟨h1_⟩
          replace BK545 : Aside0 (w11.heap[gb545]? = some (.cells #[.int .i64 a0_0, .slice A0_1 l0_1.length c0_1, .slice A0_2 l0_2.length c0_2] 27 (0, 0))) := ⟨h2_⟩
          replace BK546 : Aside0 (w11.heap[gb546]? = some (.cells #[.int .i64 0, .slice none 0 0, .slice none 0 0] 27 (0, 0))) := ⟨h3_⟩
          replace HB : Aside0 (Below w.heap.size w w11) := ⟨h4_⟩
          clear h0_ h1_ h2_ h3_ h4_
          have hK4 : w11.cell? ⟨gb545, 0, none⟩ = some (.int .i64 a0_0) ∧ w11.cell? ⟨gb545, 1, none⟩ = some (.slice A0_1 l0_1.length c0_1) ∧ w11.cell? ⟨gb545, 2, none⟩ = some (.slice A0_2 l0_2.length c0_2) := hS_
          refine norm_ (a' := ?_) ?_ ?_
          rotate_left
          ·simp only [putAll, Act.put, lA, lB, lC]
           rfl
          refine two_ (i := 5) (j := 11) (Ni := some 10) (Nj := some 3) (bm 13 511) (bm 13 2527) rfl rfl rfl rfl (two_of HT_.o (by kernel_rfl)) (by decide) (by decide) (fun K hK => ?_) (fun K hK => ?_)
          ·skip
           refine Kd.R_append_rows_step Kd.bool (w0 := w) w.heap.size (by rfl) (.tmp 7) (.tmp 9) 24 4 (.bool false) 1 rfl Try.underlying24 info4 rfl (by decide) (by omega) v548 y547 l0_1 _ _ _ (fun _ => True) (fun _ => False) rfl rfl ?aO ?aR (fun _ _ h => h) (fun _ h => h.elim) ?aF ?aB ?aS ?aL ?_
           (case aR => repeat (first | exact (Kd.C_below HR0_1.o HB.o) | (with_reducible refine qA ?_ _) | (with_reducible refine qN ?_ _) | (with_reducible refine qD ?_)))
           (case aB => exact (zB HB))
           (case aF => exact (fun _ _ => trivial))
           (case aO => exact (zR HO549))
           (case aS => exact (bZ (zB HB)))
           (case aL => have := LMc2.o; omega)
           intro v551 w12 ho hb hg hat
           rw [← Ny550.o] at ho
           replace BK545 := aM (blk_grown (g := gb545) (o := .cells #[.int .i64 a0_0, .slice A0_1 l0_1.length c0_1, .slice A0_2 l0_2.length c0_2] 27 (0, 0)) (zK BK545) hg (Kd.R_ne HO549.o BK545.o (by decide)))
           replace BK546 := aM (blk_grown (g := gb546) (o := .cells #[.int .i64 0, .slice none 0 0, .slice none 0 0] 27 (0, 0)) (zK BK546) hg (Kd.R_ne HO549.o BK546.o (by decide)))
           replace HO555 := aM (Kd.R_over' (zR HO555) (Kd.R_typed (zR HO549)) (by decide) hg)
           replace HB := aM (hb)
           have HO552 := aM (ho)
           clear HO549
           clear ho hb hg hat
           refine hK.out _ _ ⟨bc0 BK545, bc1 BK545, bc2 BK545⟩ (fun hK4 => ?_)
           clear hK K
           refine nU 10 ?_
           exact norm_ (by first | (simp only [putAll, Act.put, lA, lB, lC]; done) | (simp only [putAll, Act.put, lA, lB, lC]; rfl)) (hJ2_5_6 (v548, v551, v554) _ ⟨hK4, (zR HO552), (zR HO555), (zK BK545), (zK BK546), (zB HB)⟩)
          ·skip
           refine box_step ?hg (N := 3) ?hd (cs := #[.int .i64 0, .slice none 0 0, .slice none 0 0]) (t := 27) ?hr ?_; (case hd => rfl); (case hg => rfl); (case hr => first | (go_simp; done) | (go_simp; rfl))
           intro gb559 hg w12 hbox hb
           replace HO549 := aM (rW (zR HO549) hb)
           replace HO555 := aM (rW (zR HO555) hb)
           have BK559 := aM (hbox)
           have GW559 := gS HB hg
           have GE559 := gS HB hg
           replace HB := bS HB hb
           have NB545_559 := nL BK545 hg
           have NB559_545 := nR BK545 hg
           replace BK545 := kB BK545 hb
           have NB546_559 := nL BK546 hg
           have NB559_546 := nR BK546 hg
           replace BK546 := kB BK546 hb
           clear hb hbox hg
           refine hK.out _ _ ⟨bc0 BK545, bc1 BK545, bc2 BK545⟩ (fun hK4 => ?_)
           clear hK K
           refine nU 3 ?_
           exact norm_ (by first | (simp only [putAll, Act.put, lA, lB, lC]; done) | (simp only [putAll, Act.put, lA, lB, lC]; rfl)) (hJ2_6_11 (v548, v554, gb559) _ ⟨hK4, (zR HO549), (zR HO555), (zK BK545), (zK BK546), (zK BK559), GW559.o, GE559.o, NB545_559.o, NB559_545.o, NB546_559.o, NB559_546.o, (zB HB)⟩)
        ·skip
         rintro ⟨v548, v551⟩ w10 ⟨hS_, h0_, h1_, h2_, h3_⟩
         have HO552 : Aside0 (Kd.R Kd.bool 4 w10 w.heap.size (fun _ => True) v551 y550) := ⟨h0_⟩
         replace BK545 : Aside0 (w10.heap[gb545]? = some (.cells #[.int .i64 a0_0, .slice A0_1 l0_1.length c0_1, .slice A0_2 l0_2.length c0_2] 27 (0, 0))) := ⟨h1_⟩
         replace BK546 : Aside0 (w10.heap[gb546]? = some (.cells #[.int .i64 0, .slice none 0 0, .slice none 0 0] 27 (0, 0))) := ⟨h2_⟩
         replace HB : Aside0 (Below w.heap.size w w10) := ⟨h3_⟩
         clear h0_ h1_ h2_ h3_
         have hK4 : w10.cell? ⟨gb545, 0, none⟩ = some (.int .i64 a0_0) ∧ w10.cell? ⟨gb545, 1, none⟩ = some (.slice A0_1 l0_1.length c0_1) ∧ w10.cell? ⟨gb545, 2, none⟩ = some (.slice A0_2 l0_2.length c0_2) := hS_
         refine norm_ (a' := ?_) ?_ ?_
         rotate_left
         ·simp only [putAll, Act.put, lA, lB, lC]
          rfl
         refine two_ (i := 6) (j := 11) (Ni := some 11) (Nj := some 3) (bm 13 511) (bm 13 2495) rfl rfl rfl rfl (two_of HT_.o (by kernel_rfl)) (by decide) (by decide) (fun K hK => ?_) (fun K hK => ?_)
         ·skip
          refine Kd.R_lit_step k46 _ 46 ?hg (N := 11) ?hd (xs := ([] : List (S46))) (inner := []) (ok := fun _ => True) (okp := fun _ => True) ?hr ?hp (fun _ hk => hk) trivial (Below.refl _ _) (Nat.le_refl _) (by simp) ?_; (case hd => rfl); (case hg => rfl); (case hr => first | (go_simp; done) | (go_simp; rfl)); (case hp => exact (Reps.none _ _))
          intro v554 w11 ho12 hb hg_ hnew_
          clear hg_ hnew_
          (first | rw [← Ny553.o] at ho12 | (simp only [Int.reduceToNat] at ho12; rw [← Ny553.o] at ho12))
          replace HO552 := aM (rW (zR HO552) hb)
          have HO555 := aM (rO ho12 (bZ (zB HB)))
          replace BK545 := kB BK545 hb
          replace BK546 := kB BK546 hb
          replace HB := bS HB hb
          clear hb ho12
          refine hK.out _ _ ⟨bc0 BK545, bc1 BK545, bc2 BK545⟩ (fun hK4 => ?_)
          clear hK K
          refine nU 11 ?_
          exact norm_ (by first | (simp only [putAll, Act.put, lA, lB, lC]; done) | (simp only [putAll, Act.put, lA, lB, lC]; rfl)) (hJ2_5_6 (v548, v551, v554) _ ⟨hK4, (zR HO552), (zR HO555), (zK BK545), (zK BK546), (zB HB)⟩)
         ·skip
          refine box_step ?hg (N := 3) ?hd (cs := #[.int .i64 0, .slice none 0 0, .slice none 0 0]) (t := 27) ?hr ?_; (case hd => rfl); (case hg => rfl); (case hr => first | (go_simp; done) | (go_simp; rfl))
          intro gb559 hg w11 hbox hb
          replace HO552 := aM (rW (zR HO552) hb)
          have BK559 := aM (hbox)
          have GW559 := gS HB hg
          have GE559 := gS HB hg
          replace HB := bS HB hb
          have NB545_559 := nL BK545 hg
          have NB559_545 := nR BK545 hg
          replace BK545 := kB BK545 hb
          have NB546_559 := nL BK546 hg
          have NB559_546 := nR BK546 hg
          replace BK546 := kB BK546 hb
          clear hb hbox hg
          refine hK.out _ _ ⟨bc0 BK545, bc1 BK545, bc2 BK545⟩ (fun hK4 => ?_)
          clear hK K
          refine nU 3 ?_
          exact norm_ (by first | (simp only [putAll, Act.put, lA, lB, lC]; done) | (simp only [putAll, Act.put, lA, lB, lC]; rfl)) (hJ2_5_11 (v548, v551, gb559) _ ⟨hK4, (zR HO552), (zK BK545), (zK BK546), (zK BK559), GW559.o, GE559.o, NB545_559.o, NB559_545.o, NB546_559.o, NB559_546.o, (zB HB)⟩)
       ·skip
        rintro ⟨v548, v554, gb559⟩ w12 ⟨hS_, h0_, h1_, h2_, h3_, h4_, h5_, h6_, h7_, h8_, h9_, h10_, h11_⟩
        have HO549 : Aside0 (Kd.R Kd.bool 4 w12 w.heap.size (fun _ => True) v548 y547) := ⟨h0_⟩
        have HO555 : Aside0 (Kd.R k46 46 w12 w.heap.size (fun _ => True) v554 y553) := ⟨h1_⟩
        replace BK545 : Aside0 (w12.heap[gb545]? = some (.cells #[.int .i64 a0_0, .slice A0_1 l0_1.length c0_1, .slice A0_2 l0_2.length c0_2] 27 (0, 0))) := ⟨h2_⟩
        replace BK546 : Aside0 (w12.heap[gb546]? = some (.cells #[.int .i64 0, .slice none 0 0, .slice none 0 0] 27 (0, 0))) := ⟨h3_⟩
        have BK559 : Aside0 (w12.heap[gb559]? = some (.cells #[.int .i64 0, .slice none 0 0, .slice none 0 0] 27 (0, 0))) := ⟨h4_⟩
        have GW559 : Aside0 (w.heap.size ≤ gb559) := ⟨h5_⟩
        have GE559 : Aside0 (w.heap.size ≤ gb559) := ⟨h6_⟩
        have NB545_559 : Aside0 (gb545 ≠ gb559) := ⟨h7_⟩
        have NB559_545 : Aside0 (gb559 ≠ gb545) := ⟨h8_⟩
        have NB546_559 : Aside0 (gb546 ≠ gb559) := ⟨h9_⟩
        have NB559_546 : Aside0 (gb559 ≠ gb546) := ⟨h10_⟩
        replace HB : Aside0 (Below w.heap.size w w12) := ⟨h11_⟩
        clear h0_ h1_ h2_ h3_ h4_ h5_ h6_ h7_ h8_ h9_ h10_ h11_
        have hK4 : w12.cell? ⟨gb545, 0, none⟩ = some (.int .i64 a0_0) ∧ w12.cell? ⟨gb545, 1, none⟩ = some (.slice A0_1 l0_1.length c0_1) ∧ w12.cell? ⟨gb545, 2, none⟩ = some (.slice A0_2 l0_2.length c0_2) := hS_
        refine norm_ (a' := ?_) ?_ ?_
        rotate_left
        ·simp only [putAll, Act.put, lA, lB, lC]
         rfl
        refine one_ (i := 5) (N := some 10) (bm 13 2559) rfl rfl (one_of HT_.o (by kernel_rfl)) (by decide) (fun K hK => ?_)
        refine Kd.R_append_rows_step Kd.bool (w0 := w) w.heap.size (by rfl) (.tmp 7) (.tmp 9) 24 4 (.bool false) 1 rfl Try.underlying24 info4 rfl (by decide) (by omega) v548 y547 l0_1 _ _ _ (fun _ => True) (fun _ => False) rfl rfl ?aO ?aR (fun _ _ h => h) (fun _ h => h.elim) ?aF ?aB ?aS ?aL ?_
        (case aR => repeat (first | exact (Kd.C_below HR0_1.o HB.o) | (with_reducible refine qA ?_ _) | (with_reducible refine qN ?_ _) | (with_reducible refine qD ?_)))
        (case aB => exact (zB HB))
        (case aF => exact (fun _ _ => trivial))
        (case aO => exact (zR HO549))
        (case aS => exact (bZ (zB HB)))
        (case aL => have := LMc2.o; omega)
        intro v551 w13 ho hb hg hat
        rw [← Ny550.o] at ho
        replace BK545 := aM (blk_grown (g := gb545) (o := .cells #[.int .i64 a0_0, .slice A0_1 l0_1.length c0_1, .slice A0_2 l0_2.length c0_2] 27 (0, 0)) (zK BK545) hg (Kd.R_ne HO549.o BK545.o (by decide)))
        replace BK546 := aM (blk_grown (g := gb546) (o := .cells #[.int .i64 0, .slice none 0 0, .slice none 0 0] 27 (0, 0)) (zK BK546) hg (Kd.R_ne HO549.o BK546.o (by decide)))
        replace HO555 := aM (Kd.R_over' (zR HO555) (Kd.R_typed (zR HO549)) (by decide) hg)
        replace BK559 := aM (blk_grown (g := gb559) (o := .cells #[.int .i64 0, .slice none 0 0, .slice none 0 0] 27 (0, 0)) (zK BK559) hg (Kd.R_ne HO549.o BK559.o (by decide)))
        replace HB := aM (hb)
        have HO552 := aM (ho)
        clear HO549
        clear ho hb hg hat
        refine hK.out _ _ ⟨bc0 BK545, bc1 BK545, bc2 BK545⟩ (fun hK4 => ?_)
        clear hK K
        refine nU 10 ?_
        exact norm_ (by first | (simp only [putAll, Act.put, lA, lB, lC]; done) | (simp only [putAll, Act.put, lA, lB, lC]; rfl)) (hJ2_5_6_11 (v548, v551, v554, gb559) _ ⟨hK4, (zR HO552), (zR HO555), (zK BK545), (zK BK546), (zK BK559), GW559.o, GE559.o, NB545_559.o, NB559_545.o, NB546_559.o, NB559_546.o, (zB HB)⟩)
      ·skip
       rintro ⟨v548, v551, gb559⟩ w11 ⟨hS_, h0_, h1_, h2_, h3_, h4_, h5_, h6_, h7_, h8_, h9_, h10_⟩
       have HO552 : Aside0 (Kd.R Kd.bool 4 w11 w.heap.size (fun _ => True) v551 y550) := ⟨h0_⟩
       replace BK545 : Aside0 (w11.heap[gb545]? = some (.cells #[.int .i64 a0_0, .slice A0_1 l0_1.length c0_1, .slice A0_2 l0_2.length c0_2] 27 (0, 0))) := ⟨h1_⟩
       replace BK546 : Aside0 (w11.heap[gb546]? = some (.cells #[.int .i64 0, .slice none 0 0, .slice none 0 0] 27 (0, 0))) := ⟨h2_⟩
       have BK559 : Aside0 (w11.heap[gb559]? = some (.cells #[.int .i64 0, .slice none 0 0, .slice none 0 0] 27 (0, 0))) := ⟨h3_⟩
       have GW559 : Aside0 (w.heap.size ≤ gb559) := ⟨h4_⟩
       have GE559 : Aside0 (w.heap.size ≤ gb559) := ⟨h5_⟩
       have NB545_559 : Aside0 (gb545 ≠ gb559) := ⟨h6_⟩
       have NB559_545 : Aside0 (gb559 ≠ gb545) := ⟨h7_⟩
       have NB546_559 : Aside0 (gb546 ≠ gb559) := ⟨h8_⟩
       have NB559_546 : Aside0 (gb559 ≠ gb546) := ⟨h9_⟩
       replace HB : Aside0 (Below w.heap.size w w11) := ⟨h10_⟩
       clear h0_ h1_ h2_ h3_ h4_ h5_ h6_ h7_ h8_ h9_ h10_
       have hK4 : w11.cell? ⟨gb545, 0, none⟩ = some (.int .i64 a0_0) ∧ w11.cell? ⟨gb545, 1, none⟩ = some (.slice A0_1 l0_1.length c0_1) ∧ w11.cell? ⟨gb545, 2, none⟩ = some (.slice A0_2 l0_2.length c0_2) := hS_
       refine norm_ (a' := ?_) ?_ ?_
       rotate_left
       ·simp only [putAll, Act.put, lA, lB, lC]
        rfl
       refine one_ (i := 6) (N := some 11) (bm 13 2559) rfl rfl (one_of HT_.o (by kernel_rfl)) (by decide) (fun K hK => ?_)
       refine Kd.R_lit_step k46 _ 46 ?hg (N := 11) ?hd (xs := ([] : List (S46))) (inner := []) (ok := fun _ => True) (okp := fun _ => True) ?hr ?hp (fun _ hk => hk) trivial (Below.refl _ _) (Nat.le_refl _) (by simp) ?_; (case hd => rfl); (case hg => rfl); (case hr => first | (go_simp; done) | (go_simp; rfl)); (case hp => exact (Reps.none _ _))
       intro v554 w12 ho13 hb hg_ hnew_
       clear hg_ hnew_
       (first | rw [← Ny553.o] at ho13 | (simp only [Int.reduceToNat] at ho13; rw [← Ny553.o] at ho13))
       replace HO552 := aM (rW (zR HO552) hb)
       have HO555 := aM (rO ho13 (bZ (zB HB)))
       replace BK545 := kB BK545 hb
       replace BK546 := kB BK546 hb
       replace BK559 := kB BK559 hb
       replace HB := bS HB hb
       clear hb ho13
       refine hK.out _ _ ⟨bc0 BK545, bc1 BK545, bc2 BK545⟩ (fun hK4 => ?_)
       clear hK K
       refine nU 11 ?_
       exact norm_ (by first | (simp only [putAll, Act.put, lA, lB, lC]; done) | (simp only [putAll, Act.put, lA, lB, lC]; rfl)) (hJ2_5_6_11 (v548, v551, v554, gb559) _ ⟨hK4, (zR HO552), (zR HO555), (zK BK545), (zK BK546), (zK BK559), GW559.o, GE559.o, NB545_559.o, NB559_545.o, NB546_559.o, NB559_546.o, (zB HB)⟩)
     ·skip
      rintro ⟨v548, v551, v554⟩ w12 ⟨hS_, h0_, h1_, h2_, h3_, h4_⟩
      have HO552 : Aside0 (Kd.R Kd.bool 4 w12 w.heap.size (fun _ => True) v551 y550) := ⟨h0_⟩
      have HO555 : Aside0 (Kd.R k46 46 w12 w.heap.size (fun _ => True) v554 y553) := ⟨h1_⟩
      replace BK545 : Aside0 (w12.heap[gb545]? = some (.cells #[.int .i64 a0_0, .slice A0_1 l0_1.length c0_1, .slice A0_2 l0_2.length c0_2] 27 (0, 0))) := ⟨h2_⟩
      replace BK546 : Aside0 (w12.heap[gb546]? = some (.cells #[.int .i64 0, .slice none 0 0, .slice none 0 0] 27 (0, 0))) := ⟨h3_⟩
      replace HB : Aside0 (Below w.heap.size w w12) := ⟨h4_⟩
      clear h0_ h1_ h2_ h3_ h4_
      have hK4 : w12.cell? ⟨gb545, 0, none⟩ = some (.int .i64 a0_0) ∧ w12.cell? ⟨gb545, 1, none⟩ = some (.slice A0_1 l0_1.length c0_1) ∧ w12.cell? ⟨gb545, 2, none⟩ = some (.slice A0_2 l0_2.length c0_2) := hS_
      refine norm_ (a' := ?_) ?_ ?_
      rotate_left
      ·simp only [putAll, Act.put, lA, lB, lC]
       rfl
      refine two_ (i := 9) (j := 11) (Ni := some 14) (Nj := some 3) (bm 13 1023) (bm 13 2559) rfl rfl rfl rfl (two_of HT_.o (by kernel_rfl)) (by decide) (by decide) (fun K hK => ?_) (fun K hK => ?_)
      ·skip
       refine Kd.R_append_rows_step k46 (w0 := w) w.heap.size (by rfl) (.tmp 11) (.tmp 13) 25 46 (.agg #[(.int .i64 0), (.bool false), (.int .i64 0), (.int .i64 0)]) 32 rfl Try.underlying25 info46 rfl (by decide) (by omega) v554 y553 l0_2 _ _ _ (fun _ => True) (fun _ => False) rfl rfl ?aO ?aR (fun _ _ h => h) (fun _ h => h.elim) ?aF ?aB ?aS ?aL ?_
       (case aR => repeat (first | exact (Kd.C_below HR0_2.o HB.o) | (with_reducible refine qA ?_ _) | (with_reducible refine qN ?_ _) | (with_reducible refine qD ?_)))
       (case aB => exact (zB HB))
       (case aF => exact (fun _ _ => trivial))
       (case aO => exact (zR HO555))
       (case aS => exact (bZ (zB HB)))
       (case aL => have := LMc3.o; omega)
       intro v557 w13 ho hb hg hat
       rw [← Ny556.o] at ho
       replace BK545 := aM (blk_grown (g := gb545) (o := .cells #[.int .i64 a0_0, .slice A0_1 l0_1.length c0_1, .slice A0_2 l0_2.length c0_2] 27 (0, 0)) (zK BK545) hg (Kd.R_ne HO555.o BK545.o (by decide)))
       replace BK546 := aM (blk_grown (g := gb546) (o := .cells #[.int .i64 0, .slice none 0 0, .slice none 0 0] 27 (0, 0)) (zK BK546) hg (Kd.R_ne HO555.o BK546.o (by decide)))
       replace HO552 := aM (Kd.R_over' (zR HO552) (Kd.R_typed (zR HO555)) (by decide) hg)
       replace HB := aM (hb)
       have HO558 := aM (ho)
       clear HO555
       clear ho hb hg hat
       obtain ⟨Ao14, co14, eo14⟩ := rL HO558.o
       (first | subst eo14 | (obtain ⟨f4_, f5_⟩ := slI eo14; subst f4_; subst f5_))
       obtain ⟨Ao15, co15, eo15⟩ := rL HO552.o
       (first | subst eo15 | (obtain ⟨f4_, f5_⟩ := slI eo15; subst f4_; subst f5_))
       refine hK.out _ _ ⟨bc0 BK545, bc1 BK545, bc2 BK545⟩ (fun hK4 => ?_)
       clear hK K
       refine nU 14 ?_
       refine pW 10 15 13 2047 HT_ rfl rfl ?_
       exact norm_ (by first | (simp only [putAll, Act.put, lA, lB, lC]; done) | (simp only [putAll, Act.put, lA, lB, lC]; rfl)) (hJ2_5_6_9 (v548, .slice Ao15 y550.length co15, v554, .slice Ao14 y556.length co14) _ ⟨hK4, (zR HO552), (zR HO558), (zK BK545), (zK BK546), (zB HB)⟩)
      ·skip
       refine box_step ?hg (N := 3) ?hd (cs := #[.int .i64 0, .slice none 0 0, .slice none 0 0]) (t := 27) ?hr ?_; (case hd => rfl); (case hg => rfl); (case hr => first | (go_simp; done) | (go_simp; rfl))
       intro gb559 hg w13 hbox hb
       replace HO552 := aM (rW (zR HO552) hb)
       replace HO555 := aM (rW (zR HO555) hb)
       have BK559 := aM (hbox)
       have GW559 := gS HB hg
       have GE559 := gS HB hg
       replace HB := bS HB hb
       have NB545_559 := nL BK545 hg
       have NB559_545 := nR BK545 hg
       replace BK545 := kB BK545 hb
       have NB546_559 := nL BK546 hg
       have NB559_546 := nR BK546 hg
       replace BK546 := kB BK546 hb
       clear hb hbox hg
       refine hK.out _ _ ⟨bc0 BK545, bc1 BK545, bc2 BK545⟩ (fun hK4 => ?_)
       clear hK K
       refine nU 3 ?_
       exact norm_ (by first | (simp only [putAll, Act.put, lA, lB, lC]; done) | (simp only [putAll, Act.put, lA, lB, lC]; rfl)) (hJ2_5_6_11 (v548, v551, v554, gb559) _ ⟨hK4, (zR HO552), (zR HO555), (zK BK545), (zK BK546), (zK BK559), GW559.o, GE559.o, NB545_559.o, NB559_545.o, NB546_559.o, NB559_546.o, (zB HB)⟩)
    ·skip
     rintro ⟨v548, v551, v554, gb559⟩ w13 ⟨hS_, h0_, h1_, h2_, h3_, h4_, h5_, h6_, h7_, h8_, h9_, h10_, h11_⟩
     have HO552 : Aside0 (Kd.R Kd.bool 4 w13 w.heap.size (fun _ => True) v551 y550) := ⟨h0_⟩
     have HO555 : Aside0 (Kd.R k46 46 w13 w.heap.size (fun _ => True) v554 y553) := ⟨h1_⟩
     replace BK545 : Aside0 (w13.heap[gb545]? = some (.cells #[.int .i64 a0_0, .slice A0_1 l0_1.length c0_1, .slice A0_2 l0_2.length c0_2] 27 (0, 0))) := ⟨h2_⟩
     replace BK546 : Aside0 (w13.heap[gb546]? = some (.cells #[.int .i64 0, .slice none 0 0, .slice none 0 0] 27 (0, 0))) := ⟨h3_⟩
     have BK559 : Aside0 (w13.heap[gb559]? = some (.cells #[.int .i64 0, .slice none 0 0, .slice none 0 0] 27 (0, 0))) := ⟨h4_⟩
     have GW559 : Aside0 (w.heap.size ≤ gb559) := ⟨h5_⟩
     have GE559 : Aside0 (w.heap.size ≤ gb559) := ⟨h6_⟩
     have NB545_559 : Aside0 (gb545 ≠ gb559) := ⟨h7_⟩
     have NB559_545 : Aside0 (gb559 ≠ gb545) := ⟨h8_⟩
     have NB546_559 : Aside0 (gb546 ≠ gb559) := ⟨h9_⟩
     have NB559_546 : Aside0 (gb559 ≠ gb546) := ⟨h10_⟩
     replace HB : Aside0 (Below w.heap.size w w13) := ⟨h11_⟩
     clear h0_ h1_ h2_ h3_ h4_ h5_ h6_ h7_ h8_ h9_ h10_ h11_
     have hK4 : w13.cell? ⟨gb545, 0, none⟩ = some (.int .i64 a0_0) ∧ w13.cell? ⟨gb545, 1, none⟩ = some (.slice A0_1 l0_1.length c0_1) ∧ w13.cell? ⟨gb545, 2, none⟩ = some (.slice A0_2 l0_2.length c0_2) := hS_
     refine norm_ (a' := ?_) ?_ ?_
     rotate_left
     ·simp only [putAll, Act.put, lA, lB, lC]
      rfl
     refine one_ (i := 9) (N := some 14) (bm 13 3071) rfl rfl (one_of HT_.o (by kernel_rfl)) (by decide) (fun K hK => ?_)
     refine Kd.R_append_rows_step k46 (w0 := w) w.heap.size (by rfl) (.tmp 11) (.tmp 13) 25 46 (.agg #[(.int .i64 0), (.bool false), (.int .i64 0), (.int .i64 0)]) 32 rfl Try.underlying25 info46 rfl (by decide) (by omega) v554 y553 l0_2 _ _ _ (fun _ => True) (fun _ => False) rfl rfl ?aO ?aR (fun _ _ h => h) (fun _ h => h.elim) ?aF ?aB ?aS ?aL ?_
     (case aR => repeat (first | exact (Kd.C_below HR0_2.o HB.o) | (with_reducible refine qA ?_ _) | (with_reducible refine qN ?_ _) | (with_reducible refine qD ?_)))
     (case aB => exact (zB HB))
     (case aF => exact (fun _ _ => trivial))
     (case aO => exact (zR HO555))
     (case aS => exact (bZ (zB HB)))
     (case aL => have := LMc3.o; omega)
     intro v557 w14 ho hb hg hat
     rw [← Ny556.o] at ho
     replace BK545 := aM (blk_grown (g := gb545) (o := .cells #[.int .i64 a0_0, .slice A0_1 l0_1.length c0_1, .slice A0_2 l0_2.length c0_2] 27 (0, 0)) (zK BK545) hg (Kd.R_ne HO555.o BK545.o (by decide)))
     replace BK546 := aM (blk_grown (g := gb546) (o := .cells #[.int .i64 0, .slice none 0 0, .slice none 0 0] 27 (0, 0)) (zK BK546) hg (Kd.R_ne HO555.o BK546.o (by decide)))
     replace HO552 := aM (Kd.R_over' (zR HO552) (Kd.R_typed (zR HO555)) (by decide) hg)
     replace BK559 := aM (blk_grown (g := gb559) (o := .cells #[.int .i64 0, .slice none 0 0, .slice none 0 0] 27 (0, 0)) (zK BK559) hg (Kd.R_ne HO555.o BK559.o (by decide)))
     replace HB := aM (hb)
     have HO558 := aM (ho)
     clear HO555
     clear ho hb hg hat
     obtain ⟨Ao15, co15, eo15⟩ := rL HO558.o
     (first | subst eo15 | (obtain ⟨f4_, f5_⟩ := slI eo15; subst f4_; subst f5_))
     obtain ⟨Ao16, co16, eo16⟩ := rL HO552.o
     (first | subst eo16 | (obtain ⟨f4_, f5_⟩ := slI eo16; subst f4_; subst f5_))
     refine hK.out _ _ ⟨bc0 BK545, bc1 BK545, bc2 BK545⟩ (fun hK4 => ?_)
     clear hK K
     refine nU 14 ?_
     refine pW 10 15 13 4095 HT_ rfl rfl ?_
     exact norm_ (by first | (simp only [putAll, Act.put, lA, lB, lC]; done) | (simp only [putAll, Act.put, lA, lB, lC]; rfl)) (hJ2_5_6_9_11 (v548, .slice Ao16 y550.length co16, v554, .slice Ao15 y556.length co15, gb559) _ ⟨hK4, (zR HO552), (zR HO558), (zK BK545), (zK BK546), (zK BK559), GW559.o, GE559.o, NB545_559.o, NB559_545.o, NB546_559.o, NB559_546.o, (zB HB)⟩)
   ·skip
    rintro ⟨v548, v551, v554, v557⟩ w15 ⟨hS_, h0_, h1_, h2_, h3_, h4_⟩
    have HO552 : Aside0 (Kd.R Kd.bool 4 w15 w.heap.size (fun _ => True) v551 y550) := ⟨h0_⟩
    have HO558 : Aside0 (Kd.R k46 46 w15 w.heap.size (fun _ => True) v557 y556) := ⟨h1_⟩
    replace BK545 : Aside0 (w15.heap[gb545]? = some (.cells #[.int .i64 a0_0, .slice A0_1 l0_1.length c0_1, .slice A0_2 l0_2.length c0_2] 27 (0, 0))) := ⟨h2_⟩
    replace BK546 : Aside0 (w15.heap[gb546]? = some (.cells #[.int .i64 0, .slice none 0 0, .slice none 0 0] 27 (0, 0))) := ⟨h3_⟩
    replace HB : Aside0 (Below w.heap.size w w15) := ⟨h4_⟩
    clear h0_ h1_ h2_ h3_ h4_
    have hK4 : w15.cell? ⟨gb545, 0, none⟩ = some (.int .i64 a0_0) ∧ w15.cell? ⟨gb545, 1, none⟩ = some (.slice A0_1 l0_1.length c0_1) ∧ w15.cell? ⟨gb545, 2, none⟩ = some (.slice A0_2 l0_2.length c0_2) := hS_
    obtain ⟨Ao16, co16, eo16⟩ := rL HO558.o
    (first | subst eo16 | (obtain ⟨f4_, f5_⟩ := slI eo16; subst f4_; subst f5_))
    obtain ⟨Ao17, co17, eo17⟩ := rL HO552.o
    (first | subst eo17 | (obtain ⟨f4_, f5_⟩ := slI eo17; subst f4_; subst f5_))
    refine norm_ (a' := ?_) ?_ ?_
    rotate_left
    ·simp only [putAll, Act.put, lA, lB, lC]
     rfl
    refine one_ (i := 11) (N := some 3) (bm 13 4095) rfl rfl (one_of HT_.o (by kernel_rfl)) (by decide) (fun K hK => ?_)
    refine box_step ?hg (N := 3) ?hd (cs := #[.int .i64 0, .slice none 0 0, .slice none 0 0]) (t := 27) ?hr ?_; (case hd => rfl); (case hg => rfl); (case hr => first | (go_simp; done) | (go_simp; rfl))
    intro gb559 hg w18 hbox hb
    replace HO552 := aM (rW (zR HO552) hb)
    replace HO558 := aM (rW (zR HO558) hb)
    have BK559 := aM (hbox)
    have GW559 := gS HB hg
    have GE559 := gS HB hg
    replace HB := bS HB hb
    have NB545_559 := nL BK545 hg
    have NB559_545 := nR BK545 hg
    replace BK545 := kB BK545 hb
    have NB546_559 := nL BK546 hg
    have NB559_546 := nR BK546 hg
    replace BK546 := kB BK546 hb
    clear hb hbox hg
    refine hK.out _ _ ⟨bc0 BK545, bc1 BK545, bc2 BK545⟩ (fun hK4 => ?_)
    clear hK K
    refine nU 3 ?_
    exact norm_ (by first | (simp only [putAll, Act.put, lA, lB, lC]; done) | (simp only [putAll, Act.put, lA, lB, lC]; rfl)) (hJ2_5_6_9_11 (v548, .slice Ao17 y550.length co17, v554, .slice Ao16 y556.length co16, gb559) _ ⟨hK4, (zR HO552), (zR HO558), (zK BK545), (zK BK546), (zK BK559), GW559.o, GE559.o, NB545_559.o, NB559_545.o, NB546_559.o, NB559_546.o, (zB HB)⟩)
  rintro ⟨v548, v551, v554, v557, gb559⟩ w16 ⟨hS_, h0_, h1_, h2_, h3_, h4_, h5_, h6_, h7_, h8_, h9_, h10_, h11_⟩
  have HO552 : Aside0 (Kd.R Kd.bool 4 w16 w.heap.size (fun _ => True) v551 y550) := ⟨h0_⟩
  have HO558 : Aside0 (Kd.R k46 46 w16 w.heap.size (fun _ => True) v557 y556) := ⟨h1_⟩
  replace BK545 : Aside0 (w16.heap[gb545]? = some (.cells #[.int .i64 a0_0, .slice A0_1 l0_1.length c0_1, .slice A0_2 l0_2.length c0_2] 27 (0, 0))) := ⟨h2_⟩
  replace BK546 : Aside0 (w16.heap[gb546]? = some (.cells #[.int .i64 0, .slice none 0 0, .slice none 0 0] 27 (0, 0))) := ⟨h3_⟩
  have BK559 : Aside0 (w16.heap[gb559]? = some (.cells #[.int .i64 0, .slice none 0 0, .slice none 0 0] 27 (0, 0))) := ⟨h4_⟩
  have GW559 : Aside0 (w.heap.size ≤ gb559) := ⟨h5_⟩
  have GE559 : Aside0 (w.heap.size ≤ gb559) := ⟨h6_⟩
  have NB545_559 : Aside0 (gb545 ≠ gb559) := ⟨h7_⟩
  have NB559_545 : Aside0 (gb559 ≠ gb545) := ⟨h8_⟩
  have NB546_559 : Aside0 (gb546 ≠ gb559) := ⟨h9_⟩
  have NB559_546 : Aside0 (gb559 ≠ gb546) := ⟨h10_⟩
  replace HB : Aside0 (Below w.heap.size w w16) := ⟨h11_⟩
  clear h0_ h1_ h2_ h3_ h4_ h5_ h6_ h7_ h8_ h9_ h10_ h11_
  have hK4 : w16.cell? ⟨gb545, 0, none⟩ = some (.int .i64 a0_0) ∧ w16.cell? ⟨gb545, 1, none⟩ = some (.slice A0_1 l0_1.length c0_1) ∧ w16.cell? ⟨gb545, 2, none⟩ = some (.slice A0_2 l0_2.length c0_2) := hS_
  obtain ⟨Ao17, co17, eo17⟩ := rL HO558.o
  (first | subst eo17 | (obtain ⟨f4_, f5_⟩ := slI eo17; subst f4_; subst f5_))
  obtain ⟨Ao18, co18, eo18⟩ := rL HO552.o
  (first | subst eo18 | (obtain ⟨f4_, f5_⟩ := slI eo18; subst f4_; subst f5_))
  refine norm_ (a' := ?_) ?_ ?_
  rotate_left
  ·simp only [putAll, Act.put, lA, lB, lC]
   rfl
  refine one_ (i := 12) (N := none) (bm 13 8191) rfl rfl (one_of HT_.o (by kernel_rfl)) (by decide) (fun K hK => ?_)
  have hs19 : w16.cell? ⟨gb559, 0, none⟩ = some (.int .i64 0) := bc0 BK559
  have hfs19 := bf BK559 0
  have hns19_0 := NB545_559.o
  have hns19_1 := NB546_559.o
  have hms19_0 := NB559_545.o
  have hms19_1 := NB559_546.o
  have hs20 : w16.cell? ⟨gb559, 1, none⟩ = some (.slice none 0 0) := bc1 BK559
  have hfs20 := bf BK559 1
  have hns20_0 := NB545_559.o
  have hns20_1 := NB546_559.o
  have hms20_0 := NB559_545.o
  have hms20_1 := NB559_546.o
  have hs21 : w16.cell? ⟨gb559, 2, none⟩ = some (.slice none 0 0) := bc2 BK559
  have hfs21 := bf BK559 2
  have hns21_0 := NB545_559.o
  have hns21_1 := NB546_559.o
  have hms21_0 := NB559_545.o
  have hms21_1 := NB559_546.o
  refine skip_ (w1 := ?_) (by rfl) rfl ?_ ?_
  rotate_left
  ·go_simp
   rfl
  refine hK.out _ _ ⟨((cF (p := ⟨gb559, _, none⟩) NB545_559.o _).trans (((cF (p := ⟨gb559, _, none⟩) NB545_559.o _).trans (((cF (p := ⟨gb559, _, none⟩) NB545_559.o _).trans (hK4.1)))))), ((cF (p := ⟨gb559, _, none⟩) NB545_559.o _).trans (((cF (p := ⟨gb559, _, none⟩) NB545_559.o _).trans (((cF (p := ⟨gb559, _, none⟩) NB545_559.o _).trans (hK4.2.1)))))), ((cF (p := ⟨gb559, _, none⟩) NB545_559.o _).trans (((cF (p := ⟨gb559, _, none⟩) NB545_559.o _).trans (((cF (p := ⟨gb559, _, none⟩) NB545_559.o _).trans (hK4.2.2))))))⟩ (fun hK4 => ?_)
  clear hK K
  refine done_ (done_of HT_.o (by kernel_rfl)) ?_
  try clear hK4
  have hnb22 := NB559_545.o
  have hnc22 := NB545_559.o
  have hnb23 := NB559_546.o
  have hnc23 := NB546_559.o
  obtain ⟨z24_0, z24_1, z24_2, f24_0, f24_1, f24_2⟩ := bq3 BK559
  try go_wp2
  go_loopg [19] k (fun kq v19 w' => ∃ (x19_1 : Int) (x560002_1 : List (S46)) (u560002 : Value), v19 = .int .i64 x19_1 ∧ Aside0 (impl_DualOf.l0 kq (y556.length : Int) x19_1 a0_0 y550 x560002_1 = some (r1, r2, r3)) ∧ Aside0 (kq ≤ k) ∧ Aside0 (Kd.R Kd.bool 4 w' w.heap.size (fun _ => True) (.slice Ao18 y550.length co18) y550) ∧ Aside0 (Kd.R k46 46 w' w.heap.size (fun _ => True) u560002 x560002_1) ∧ Aside0 (w'.heap[gb545]? = some (.cells #[.int .i64 a0_0, (.slice A0_1 l0_1.length c0_1), (.slice A0_2 l0_2.length c0_2)] 27 (0, 0))) ∧ Aside0 (w'.heap[gb546]? = some (.cells #[.int .i64 0, (.slice none 0 0), (.slice none 0 0)] 27 (0, 0))) ∧ Aside0 (w'.heap[gb559]? = some (.cells #[.int .i64 a0_0, (.slice Ao18 y550.length co18), u560002] 27 (0, 0))) ∧ Aside0 (Below w.heap.size w w'))
  case atStart => exact ⟨(0), (y556), (.slice Ao17 y556.length co17), zF, H', ⟨Nat.le_refl _⟩, ⟨rM (rB HO552 BK559) (fun _ hk => trivial)⟩, ⟨rM (rB HO558 BK559) (fun _ hk => trivial)⟩, ⟨kF BK545⟩, ⟨kF BK546⟩, ⟨by (with_reducible repeat (first | apply bN | apply bD | apply bA)); refine bP (cs := #[.int .i64 a0_0, .slice Ao18 y550.length co18, .slice none 0 0]) ?_ 2 _ rfl; (with_reducible repeat (first | apply bN | apply bD | apply bA)); refine bP (cs := #[.int .i64 a0_0, .slice none 0 0, .slice none 0 0]) ?_ 1 _ rfl; (with_reducible repeat (first | apply bN | apply bD | apply bA)); refine bP (cs := #[.int .i64 0, .slice none 0 0, .slice none 0 0]) ?_ 0 _ rfl; (with_reducible repeat (first | apply bN | apply bD | apply bA)); exact BK559.o⟩, ⟨zB HB⟩⟩
  case round =>
   clear H'
   try clear c2
   try clear p2
   try clear c3
   try clear c22
   try clear c23
   try clear z24_0
   try clear z24_1
   try clear z24_2
   try clear f24_0
   try clear f24_1
   try clear f24_2
   obtain ⟨x19_1, x560002_1, u560002, rfl, HA, HK1, HO_560001, HO_560002, BK545, BK546, BK559, HB⟩ := hrel
   cases gk with
   | zero => exact absurd HA.o (by simp [impl_DualOf.l0])
   | succ k1 =>
    have H := HA.o
    clear HA
    simp only [impl_DualOf.l0] at H
    by_cases c25 : x19_1 < (y556.length : Int)
    ·rw [if_pos c25] at H
     have c25b0 : decide (x19_1 < (y556.length : Int)) = true := dT c25
     clear c25
     obtain ⟨c26, H⟩ := ifS H
     have c26b0 : decide (0 ≤ x19_1) = true := dT c26
     clear c26
     obtain ⟨c27, H⟩ := ifS H
     have c27b0 : decide (x19_1 < (x560002_1.length : Int)) = true := dT c27
     clear c27
     obtain ⟨y561, hy561⟩ : ∃ y_ : List (S46), y_ = (x560002_1.set (x19_1 : Int).toNat (⟨(rd_T46 x560002_1 x19_1).f0, !((rd_T46 x560002_1 x19_1).f1), (rd_T46 x560002_1 x19_1).f2, (rd_T46 x560002_1 x19_1).f3⟩ : S46)) := ⟨_, rfl⟩
     replace H : (impl_DualOf.l0 k1 (y556.length : Int) (wrap64 (x19_1 + 1)) a0_0 y550 y561) = some (r1, r2, r3) := by first | (rw [hy561]; with_reducible exact H) | (rw [hy561]; exact H) | exact H
     have Ny561 := aM hy561
     clear hy561
     have H' := aM H
     clear H
     try go_wp2
     replace HO_560001 := aM (rD HO_560001.o)
     replace HO_560002 := aM (rD HO_560002.o)
     replace BK545 := aM (bD BK545.o)
     replace BK546 := aM (bD BK546.o)
     replace BK559 := aM (bD BK559.o)
     replace HB := aM (below_drew1 HB.o)
     obtain ⟨Ao30, co30, eo30⟩ := rL HO_560002.o
     (first | subst eo30 | (obtain ⟨f4_, f5_⟩ := slI eo30; subst f4_; subst f5_))
     have p560 : 0 ≤ (x19_1 : Int) := zD
     have q560 : x19_1 < (x560002_1.length : Int) := zD
     obtain ⟨ad560, e560, hx560_0, hx560_1, hx560_2, hx560_3⟩ := at_T46 (rQ HO_560002.o).2.2 x19_1 p560 q560
     cases e560
     replace p560 := eq_true p560
     replace q560 := eq_true q560
     have p28 : 0 ≤ (x19_1 : Int) := zD
     have q28 : (x19_1 : Int) < ((x560002_1.length : Int) : Int) := zD
     obtain ⟨go28, co28, eo28, gb28, gl28, cl28, HG28⟩ := Kd.R_form HO_560002.o (by omega)
     (first | cases eo28 | (injection eo28 with ea_ en_ ec_; (first | subst ea_ | (injection ea_ with ea_; subst ea_)); subst ec_; clear en_))
     have GB28 := aM gb28
     have GG28 := aM HG28
     clear gb28 gl28 HG28
     (first | simp only [add_plain] at hx560_0 | skip)
     (first | simp only [add_plain] at hx560_1 | skip)
     (first | simp only [add_plain] at hx560_2 | skip)
     (first | simp only [add_plain] at hx560_3 | skip)
     obtain ⟨ce28, hcl28, hM28, hcc28, hfr28⟩ := Kd.R_elem HO_560002.o z46 (x19_1 : Int) p28 q28
     obtain rfl := k46_openM hM28
     have hx28_0 : World.cell? _ ⟨go28, (x19_1 : Int).toNat * 4, none⟩ = some (.int .i64 ((rd_T46 x560002_1 x19_1).f0)) := hcc28 0 _ rfl
     have hx28_1 : World.cell? _ ⟨go28, (x19_1 : Int).toNat * 4 + 1, none⟩ = some (.bool ((rd_T46 x560002_1 x19_1).f1)) := hcc28 1 _ rfl
     have hx28_2 : World.cell? _ ⟨go28, (x19_1 : Int).toNat * 4 + 2, none⟩ = some (.int .i64 ((rd_T46 x560002_1 x19_1).f2)) := hcc28 2 _ rfl
     have hx28_3 : World.cell? _ ⟨go28, (x19_1 : Int).toNat * 4 + 3, none⟩ = some (.int .i64 ((rd_T46 x560002_1 x19_1).f3)) := hcc28 3 _ rfl
     have hf28_0 : World.frozen? _ ⟨go28, (x19_1 : Int).toNat * 4, none⟩ = false := hfr28 0
     have hf28_1 : World.frozen? _ ⟨go28, (x19_1 : Int).toNat * 4 + 1, none⟩ = false := hfr28 1
     have hf28_2 : World.frozen? _ ⟨go28, (x19_1 : Int).toNat * 4 + 2, none⟩ = false := hfr28 2
     have hf28_3 : World.frozen? _ ⟨go28, (x19_1 : Int).toNat * 4 + 3, none⟩ = false := hfr28 3
     clear hcl28 hcc28 hfr28 hM28
     replace p28 := eq_true p28
     replace q28 := eq_true q28
     obtain ⟨ce31, hcl31, hM31, hcc31, hfr31⟩ := Kd.R_elem HO_560002.o z46 (x19_1 : Int) (zD) (by have h_ : (x19_1 : Int) < ((x560002_1.length : Int) : Int) := zD; first | exact h_ | (have e_ := (rQ HO_560002.o).1; omega) | simpa using h_)
     obtain rfl := k46_openM hM31
     have HP31 := (Kd.R_seg HO_560002.o (x19_1 : Int) (zD) (by have h_ : (x19_1 : Int) < ((x560002_1.length : Int) : Int) := zD; first | exact h_ | (have e_ := (rQ HO_560002.o).1; omega) | simpa using h_) (seg := [.bool (!((rd_T46 x560002_1 x19_1).f1))]) (j := 1) hcl31 hcc31 (show 2 ≤ 4 from by decide) (x' := (⟨(rd_T46 x560002_1 x19_1).f0, !((rd_T46 x560002_1 x19_1).f1), (rd_T46 x560002_1 x19_1).f2, (rd_T46 x560002_1 x19_1).f3⟩ : S46)) (k46_mkM _ _ _ (⟨(rd_T46 x560002_1 x19_1).f0, !((rd_T46 x560002_1 x19_1).f1), (rd_T46 x560002_1 x19_1).f2, (rd_T46 x560002_1 x19_1).f3⟩ : S46) ) (fun _ hk => hk)).1
     rw [← Ny561.o] at HP31
     have HQ31 := aM HP31
     clear hcl31 hcc31 hfr31 hM31 HP31
     refine start_ (n := 13) (S := fun w' => w'.cell? ⟨gb559, 0, none⟩ = some (.int .i64 a0_0) ∧ w'.cell? ⟨gb559, 1, none⟩ = some (.slice Ao18 y550.length co18) ∧ w'.cell? ⟨gb559, 2, none⟩ = some (.slice (some ⟨go28, 0, none⟩) x560002_1.length co30) ∧ w'.cell? ⟨go28, ((x19_1).toNat * 4), none⟩ = some (.int .i64 ((rd_T46 x560002_1 x19_1).f0)) ∧ w'.cell? ⟨go28, ((x19_1).toNat * 4) + 1, none⟩ = some (.bool ((rd_T46 x560002_1 x19_1).f1)) ∧ w'.cell? ⟨go28, ((x19_1).toNat * 4) + 2, none⟩ = some (.int .i64 ((rd_T46 x560002_1 x19_1).f2)) ∧ w'.cell? ⟨go28, ((x19_1).toNat * 4) + 3, none⟩ = some (.int .i64 ((rd_T46 x560002_1 x19_1).f3))) (ds := [12]) (bm 13 0) (by kernel_rfl) rfl (bm0 _) ⟨bc0 BK559, bc1 BK559, bc2 BK559, hx560_0, hx560_1, hx560_2, hx560_3⟩ (fun hK4 => ?_); refine with_tabW impl_DualOf.tab5 impl_DualOf.bits5 (fun HT_ HW_ => ?_)
     generalize wr.drew = w29 at HO_560001 HO_560002 BK545 BK546 BK559 HB GG28 HQ31 hf28_0 hf28_1 hf28_2 hf28_3 hx28_0 hx28_1 hx28_2 hx28_3 hx560_0 hx560_1 hx560_2 hx560_3 hK4 ⊢
     refine pW 0 22 13 1 HT_ rfl rfl ?_
     refine pW 2 24 13 5 HT_ rfl rfl ?_
     refine pW 3 25 13 13 HT_ rfl rfl ?_
     refine pW 5 27 13 45 HT_ rfl rfl ?_
     refine tW 1 23 13 47 HT_ HW_ rfl rfl hK4 ?_
     refine tW 4 26 13 63 HT_ HW_ rfl rfl hK4 ?_
     refine pW 6 28 13 127 HT_ rfl rfl ?_
     refine pW 7 29 13 255 HT_ rfl rfl ?_
     refine tW 8 30 13 511 HT_ HW_ rfl rfl hK4 ?_
     refine pW 9 31 13 1023 HT_ rfl rfl ?_
     refine pW 10 32 13 2047 HT_ rfl rfl ?_
     refine pW 11 33 13 4095 HT_ rfl rfl ?_
     refine last_ (i := 12) (N := none) (bm 13 8191) rfl rfl (one_of HT_.o (by kernel_rfl)) (by decide) (fun K hK => ?_)
     refine skip_ (w1 := ?_) (by rfl) rfl ?_ ?_
     rotate_left
     ·go_simp
      rfl
     refine hK.out _ _ ?_
     clear hK K
     refine done_ (done_of HT_.o (by kernel_rfl)) ?_
     try clear hK4
     try go_wp2
     go_roundg k1
     case measure => have := HK1.o; omega
     case rel => exact ⟨(wrap64 (x19_1 + 1)), (y561), (.slice (some ⟨go28, 0, none⟩) x560002_1.length co30), zF, H', ⟨by have := HK1.o; omega⟩, ⟨by (with_reducible repeat (first | apply rA | apply rN | apply rD)); exact rM (Kd.R_far (p := ⟨go28, (x19_1 : Int).toNat * 4 + 1, none⟩) (Kd.R_types HO_560001.o GG28.o (by decide)) (fun _ hk => hk.2) (.bool (!((rd_T46 x560002_1 x19_1).f1)))) (fun _ hk => trivial)⟩, ⟨zR HQ31⟩, ⟨by (with_reducible repeat (first | apply bN | apply bD | apply bA)); refine bF ?_ (by have h_ := Kd.R_ne HO_560002.o BK545.o (by decide); intro e_; exact h_ (by rw [e_]; rfl)) _; (with_reducible repeat (first | apply bN | apply bD | apply bA)); exact BK545.o⟩, ⟨by (with_reducible repeat (first | apply bN | apply bD | apply bA)); refine bF ?_ (by have h_ := Kd.R_ne HO_560002.o BK546.o (by decide); intro e_; exact h_ (by rw [e_]; rfl)) _; (with_reducible repeat (first | apply bN | apply bD | apply bA)); exact BK546.o⟩, ⟨by (with_reducible repeat (first | apply bN | apply bD | apply bA)); refine bF ?_ (by have h_ := Kd.R_ne HO_560002.o BK559.o (by decide); intro e_; exact h_ (by rw [e_]; rfl)) _; (with_reducible repeat (first | apply bN | apply bD | apply bA)); exact BK559.o⟩, ⟨zB HB⟩⟩
    ·rw [if_neg c25] at H
     have c25b0 : decide (x19_1 < (y556.length : Int)) = false := decide_eq_false c25
     clear c25
     simp only [Option.some.injEq, Prod.mk.injEq] at H
     obtain ⟨rfl, rfl, rfl⟩ := H
     have hnb32 := NB559_545.o
     have hnc32 := NB545_559.o
     have hnb33 := NB559_546.o
     have hnc33 := NB546_559.o
     obtain ⟨z34_0, z34_1, z34_2, f34_0, f34_1, f34_2⟩ := bq3 BK559
     have hnb35 := NB546_545.o
     have hnc35 := NB545_546.o
     obtain ⟨z36_0, z36_1, z36_2, f36_0, f36_1, f36_2⟩ := bq3 BK546
     obtain ⟨Ao37, co37, eo37⟩ := rL HO_560002.o
     subst eo37
     go_wp2
     refine bodyPost_ret (results_cell_row rfl _ _ gb546 27 #[.int .i64 a0_0, .slice Ao18 y550.length co18, .slice Ao37 x560002_1.length co37] (0, 0) _ rfl (by (with_reducible repeat (first | apply bN | apply bD | apply bA)); refine bP (cs := #[.int .i64 a0_0, .slice Ao18 y550.length co18, .slice none 0 0]) ?_ 2 _ rfl; (with_reducible repeat (first | apply bN | apply bD | apply bA)); refine bP (cs := #[.int .i64 a0_0, .slice none 0 0, .slice none 0 0]) ?_ 1 _ rfl; (with_reducible repeat (first | apply bN | apply bD | apply bA)); refine bP (cs := #[.int .i64 0, .slice none 0 0, .slice none 0 0]) ?_ 0 _ rfl; (with_reducible repeat (first | apply bN | apply bD | apply bA)); exact BK546.o) Try.underlying27 rfl (by kernel_rfl)) rfl ?_
     exact ⟨_, _, zE, rM (rB HO_560001 BK546) (fun _ hk => trivial), rM (rB HO_560002 BK546) (fun _ hk => trivial), zB HB⟩
 ·rw [if_neg c2] at H
  exact absurd H (by simp)

end Go.Proofs.Ytfibjclnaeocbaa.PFnPairs
