-- WRITTEN by pp.py, this session's own wrapper around the print; not trusted: Lean checks it
import Derived.Test.YtjlaogjikkckkaaPFnMachinesx0
namespace Go.Proofs.Ytjlaogjikkckkaa.PFnMachines
open Go.RowKit Go.Proofs.Ytjlaogjikkckkaa.Hw Go.Proofs.YtjlaogjikkckkaaW.PrintWords Go.Proofs.YtjlaogjikkckkaaW.PrintLast Go.Proofs.YtjlaogjikkckkaaW.PrintMore
attribute [local go_sem] max2_int min2_int max_two min_two max_three min_three max_four min_four   -- for this text's walks alone
set_option linter.unusedVariables false
set_option linter.unusedSimpArgs false
set_option linter.unusedSectionVars false

/-! ### impl_DualOf: function 9 -/
def impl_DualOf.l0 : Nat → Int → Int → Int → List Bool → List (S54) → Option (Int × List Bool × (List (S54)))
 | 0, _, _, _, _, _ => none
 | k + 1, x18, x19, x116000, x116001, x116002 => if x19 < x18 then (if 0 ≤ x19 then (if x19 < (x116002.length : Int) then (impl_DualOf.l0 k x18 (wrap64 (x19 + 1)) x116000 x116001 (x116002.set (x19 : Int).toNat (⟨(rd_T54 x116002 x19).f0, !((rd_T54 x116002 x19).f1), (rd_T54 x116002 x19).f2, (rd_T54 x116002 x19).f3⟩ : S54))) else (none)) else (none)) else (some (x116000, x116001, x116002))
def impl_DualOf.f (k : Nat) (a0_0 : Int) (l0_1 : List Bool) (l0_2 : List (S54)) : Option (Int × List Bool × (List (S54))) := (some (([] : List Bool) : List Bool)).bind fun y103 => (if y103.length + l0_1.length < 140737488355328 then ((some (([] : List (S54)) : List (S54))).bind fun y109 => (if y109.length + l0_2.length < 4398046511104 then ((some (y109 ++ l0_2 : List (S54))).bind fun y112 => (impl_DualOf.l0 k (y112.length : Int) 0 a0_0 (y103 ++ l0_1) y112)) else (none))) else (none))
theorem impl_DualOf.mono_l : ∀ k, (∀ y0 y1 y2 y3 y4, LeO (impl_DualOf.l0 k y0 y1 y2 y3 y4) (impl_DualOf.l0 (k + 1) y0 y1 y2 y3 y4))
 | 0 => fun _ _ _ _ _ r h => by simp [impl_DualOf.l0] at h
 | k + 1 => by
  have ih0 := impl_DualOf.mono_l k
  ·intro y0 y1 y2 y3 y4
   unfold impl_DualOf.l0
   repeat' first
   | (with_reducible exact ih0 _ _ _ _ _)
   | (with_reducible exact LeO.refl _)
   | (with_reducible exact LeO.none _)
   | (with_reducible refine LeO.ite ?_ ?_)
   | (with_reducible refine LeO.bind ?_ (fun _ => ?_))
   | exact ih0 _ _ _ _ _
   | exact LeO.none _
   | refine LeO.ite ?_ ?_
   | refine LeO.bind ?_ (fun _ => ?_)
theorem impl_DualOf.mono : ∀ a0 a1 a2 k, LeO (impl_DualOf.f k a0 a1 a2) (impl_DualOf.f (k + 1) a0 a1 a2) := by
 intro a0 a1 a2 k
 have ih0 := impl_DualOf.mono_l k
 unfold impl_DualOf.f
 repeat' first
   | (with_reducible exact ih0 _ _ _ _ _)
   | (with_reducible exact LeO.refl _)
   | (with_reducible exact LeO.none _)
   | (with_reducible refine LeO.ite ?_ ?_)
   | (with_reducible refine LeO.bind ?_ (fun _ => ?_))
   | exact ih0 _ _ _ _ _
   | exact LeO.none _
   | refine LeO.ite ?_ ?_
   | refine LeO.bind ?_ (fun _ => ?_)
def impl_DualOf.T1 : Bool × List (List Nat × List Nat) := (true, [([], []), ([0], [0]), ([], []), ([], []), ([3], [3]), ([2, 4], [2, 4]), ([], []), ([], []), ([7], [7]), ([6, 8, 5], [6, 8]), ([1, 5, 9], [1, 5, 9]), ([], []), ([11, 10, 9, 0, 1, 2, 3, 4, 5, 6, 7, 8, 9, 10, 11], [10, 11])])
def impl_DualOf.B1 : List Nat := [0, 1, 0, 0, 8, 28, 0, 0, 128, 508, 1023, 0, 4095]
theorem impl_DualOf.tab1 : rtab .any (opsOf Try.f9 1) = impl_DualOf.T1 := by kernel_rfl
theorem impl_DualOf.bits1 : waitsOk impl_DualOf.T1.2 impl_DualOf.B1 = true := by kernel_rfl
def impl_DualOf.T5 : Bool × List (List Nat × List Nat) := (true, [([], []), ([0], [0]), ([], []), ([], []), ([3], [3]), ([], []), ([4, 5], [4, 5]), ([6], [6]), ([7], [7]), ([8], [8]), ([1, 2, 0, 1, 2, 3, 4, 5, 6, 7, 8, 9], [1, 2]), ([10, 0, 1, 2, 3, 4, 5, 6, 7, 8, 9], [10]), ([11, 9, 0, 1, 2, 3, 4, 5, 6, 7, 8, 9], [9, 11])])
def impl_DualOf.B5 : List Nat := [0, 1, 0, 0, 8, 0, 56, 120, 248, 504, 1023, 2047, 4095]
theorem impl_DualOf.tab5 : rtab .any (opsOf Try.f9 5) = impl_DualOf.T5 := by kernel_rfl
theorem impl_DualOf.bits5 : waitsOk impl_DualOf.T5.2 impl_DualOf.B5 = true := by kernel_rfl
set_option maxHeartbeats 8000000 in
set_option maxRecDepth 100000 in
theorem impl_DualOf.calls (k : Nat) (a0_0 : Int) (A0_1 : Option Addr) (c0_1 : Nat) (l0_1 : List Bool) (A0_2 : Option Addr) (c0_2 : Nat) (l0_2 : List (S54)) (r1 : Int) (r2 : List Bool) (r3 : List (S54)) (w : World) (hr0_1 : Kd.C Kd.bool w A0_1 l0_1.length l0_1) (hc0_1 : l0_1.length ≤ c0_1) (hr0_2 : Kd.C k54 w A0_2 l0_2.length l0_2) (hc0_2 : l0_2.length ≤ c0_2) (h : impl_DualOf.f k a0_0 l0_1 l0_2 = some (r1, r2, r3)) :
  Calls Try.prog 9 #[.agg #[.int .i64 a0_0, .slice A0_1 l0_1.length c0_1, .slice A0_2 l0_2.length c0_2]] w fun e w' => ∃ v1_ v2_ : Value, e = .returned (.agg #[.int .i64 r1, v1_, v2_]) ∧ Kd.R Kd.bool 4 w' w.heap.size (fun _ => True) v1_ r2 ∧ Kd.R k54 54 w' w.heap.size (fun _ => True) v2_ r3 ∧ Below w.heap.size w w' := by
 have hu29 := Try.underlying29
 have HR0_1 := Aside0.mk hr0_1
 have HC0_1 := Aside0.mk hc0_1
 clear hr0_1 hc0_1
 have HR0_2 := Aside0.mk hr0_2
 have HC0_2 := Aside0.mk hc0_2
 clear hr0_2 hc0_2
 have HB := Aside0.mk (Below.refl w.heap.size w)
 have H : ((some (([] : List Bool) : List Bool)).bind fun y103 => (if y103.length + l0_1.length < 140737488355328 then ((some (([] : List (S54)) : List (S54))).bind fun y109 => (if y109.length + l0_2.length < 4398046511104 then ((some (y109 ++ l0_2 : List (S54))).bind fun y112 => (impl_DualOf.l0 k (y112.length : Int) 0 a0_0 (y103 ++ l0_1) y112)) else (none))) else (none))) = some (r1, r2, r3) := h
 clear h
 obtain ⟨y103, hy103⟩ : ∃ y_ : List Bool, y_ = (([] : List Bool)) := ⟨_, rfl⟩
 replace H : (if y103.length + l0_1.length < 140737488355328 then ((some (([] : List (S54)) : List (S54))).bind fun y109 => (if y109.length + l0_2.length < 4398046511104 then ((some (y109 ++ l0_2 : List (S54))).bind fun y112 => (impl_DualOf.l0 k (y112.length : Int) 0 a0_0 (y103 ++ l0_1) y112)) else (none))) else (none)) = some (r1, r2, r3) := by first | (rw [hy103]; with_reducible exact H) | (have H2_ := (Option.bind_some _ _).symm.trans H; rw [hy103]; with_reducible exact H2_) | (have H2_ := (Option.bind_some _ _).symm.trans H; with_reducible exact H2_) | with_reducible exact H | (rw [hy103]; exact H) | exact H
 have Ny103 := Aside0.mk hy103
 clear hy103
 by_cases c2 : y103.length + l0_1.length < 140737488355328
 ·rw [if_pos c2] at H
  have LMc2 := Aside0.mk c2
  clear c2
  obtain ⟨y106, hy106⟩ : ∃ y_ : List Bool, y_ = (y103 ++ l0_1) := ⟨_, rfl⟩
  replace H : ((some (([] : List (S54)) : List (S54))).bind fun y109 => (if y109.length + l0_2.length < 4398046511104 then ((some (y109 ++ l0_2 : List (S54))).bind fun y112 => (impl_DualOf.l0 k (y112.length : Int) 0 a0_0 y106 y112)) else (none))) = some (r1, r2, r3) := by first | (rw [hy106]; with_reducible exact H) | (have H2_ := (Option.bind_some _ _).symm.trans H; rw [hy106]; with_reducible exact H2_) | (have H2_ := (Option.bind_some _ _).symm.trans H; with_reducible exact H2_) | with_reducible exact H | (rw [hy106]; exact H) | exact H
  have Ny106 := Aside0.mk hy106
  clear hy106
  obtain ⟨y109, hy109⟩ : ∃ y_ : List (S54), y_ = (([] : List (S54))) := ⟨_, rfl⟩
  replace H : (if y109.length + l0_2.length < 4398046511104 then ((some (y109 ++ l0_2 : List (S54))).bind fun y112 => (impl_DualOf.l0 k (y112.length : Int) 0 a0_0 y106 y112)) else (none)) = some (r1, r2, r3) := by first | (rw [hy109]; with_reducible exact H) | (have H2_ := (Option.bind_some _ _).symm.trans H; rw [hy109]; with_reducible exact H2_) | (have H2_ := (Option.bind_some _ _).symm.trans H; with_reducible exact H2_) | with_reducible exact H | (rw [hy109]; exact H) | exact H
  have Ny109 := Aside0.mk hy109
  clear hy109
  by_cases c3 : y109.length + l0_2.length < 4398046511104
  ·rw [if_pos c3] at H
   have LMc3 := Aside0.mk c3
   clear c3
   obtain ⟨y112, hy112⟩ : ∃ y_ : List (S54), y_ = (y109 ++ l0_2) := ⟨_, rfl⟩
   replace H : (impl_DualOf.l0 k (y112.length : Int) 0 a0_0 y106 y112) = some (r1, r2, r3) := by first | (rw [hy112]; with_reducible exact H) | (have H2_ := (Option.bind_some _ _).symm.trans H; rw [hy112]; with_reducible exact H2_) | (have H2_ := (Option.bind_some _ _).symm.trans H; with_reducible exact H2_) | with_reducible exact H | (rw [hy112]; exact H) | exact H
   have Ny112 := Aside0.mk hy112
   clear hy112
   have H' := Aside0.mk H
   clear H
   go_enter Try.func9, Try.ntmps9
   try go_wp2_with (first | ((with_reducible refine gate_dst (N := 1) rfl ?_); refine box_event ?hg (N := 1) ?hd (cs := #[.int .i64 a0_0, .slice A0_1 l0_1.length c0_1, .slice A0_2 l0_2.length c0_2]) (t := 29) ?hr ?_; (case hd => rfl); (case hg => rfl); (case hr => first | (go_simp; done) | (go_simp; rfl)); intro gb101 hg w4 hbox hb; have n0_ := bS HB hb; have n1_ := Aside0.mk (hbox); have n2_ := gS HB hg; have n3_ := gS HB hg; clear HB; have HB := n0_; have BK101 := n1_; have GW101 := n2_; have GE101 := n3_; clear n0_ n1_ n2_ n3_; clear hb hbox hg) | ((with_reducible refine gate_dst (N := 2) rfl ?_); refine box_event ?hg (N := 2) ?hd (cs := #[.int .i64 0, .slice none 0 0, .slice none 0 0]) (t := 29) ?hr ?_; (case hd => rfl); (case hg => rfl); (case hr => first | (go_simp; done) | (go_simp; rfl)); intro gb102 hg w5 hbox hb; have n0_ := kB BK101 hb; have n1_ := bS HB hb; have n2_ := Aside0.mk (hbox); have n3_ := gS HB hg; have n4_ := gS HB hg; have n5_ := Aside0.mk ((by rw [hg]; exact Nat.ne_of_lt (blk_lt (g := gb101) (o := .cells #[.int .i64 a0_0, .slice A0_1 l0_1.length c0_1, .slice A0_2 l0_2.length c0_2] 29 (0, 0)) (zK BK101)) : gb101 ≠ gb102)); have n6_ := Aside0.mk ((by rw [hg]; exact Nat.ne_of_gt (blk_lt (g := gb101) (o := .cells #[.int .i64 a0_0, .slice A0_1 l0_1.length c0_1, .slice A0_2 l0_2.length c0_2] 29 (0, 0)) (zK BK101)) : gb102 ≠ gb101)); clear BK101; clear HB; have BK101 := n0_; have HB := n1_; have BK102 := n2_; have GW102 := n3_; have GE102 := n4_; have NB101_102 := n5_; have NB102_101 := n6_; clear n0_ n1_ n2_ n3_ n4_ n5_ n6_; clear hb hbox hg))
   have n0_ := Aside0.mk (blk_drew BK101.out)
   have n1_ := Aside0.mk (blk_drew BK102.out)
   have n2_ := Aside0.mk (below_drew1 HB.out)
   clear BK101
   clear BK102
   clear HB
   have BK101 := n0_
   have BK102 := n1_
   have HB := n2_
   clear n0_ n1_ n2_
   refine start_ (n := 13) (S := fun w' => w'.cell? ⟨gb101, 0, none⟩ = some (.int .i64 a0_0) ∧ w'.cell? ⟨gb101, 1, none⟩ = some (.slice A0_1 l0_1.length c0_1) ∧ w'.cell? ⟨gb101, 2, none⟩ = some (.slice A0_2 l0_2.length c0_2)) (ds := []) (bm 13 0) (by kernel_rfl) rfl (bm0 _) ⟨bc0 BK101, bc1 BK101, bc2 BK101⟩ (fun hHeld => ?_); refine with_tabW impl_DualOf.tab1 impl_DualOf.bits1 (fun HT_ HW_ => ?_)
   generalize w5.drew = w6 at BK101 BK102 HB hHeld ⊢
   refine pure_ (i := 0) (N := some 5) (v := ?_) (a' := ?_) (bm 13 1) rfl rfl (any_of HT_.out (by kernel_rfl)) (fun _ _ _ h => h) (Or.inl ⟨by rfl, ?_⟩) ?_ ?_
   rotate_left
   ·intro w'
    go_simp
    with_reducible rfl
   rotate_left
   ·simp only [Act.put, List.setIfInBounds_toArray, List.set_cons_zero, List.set_cons_succ, i64_w, i32_w]
    rfl
   refine pure_ (i := 3) (N := some 8) (v := ?_) (a' := ?_) (bm 13 9) rfl rfl (any_of HT_.out (by kernel_rfl)) (fun _ _ _ h => h) (Or.inl ⟨by rfl, ?_⟩) ?_ ?_
   rotate_left
   ·intro w'
    go_simp
    with_reducible rfl
   rotate_left
   ·simp only [Act.put, List.setIfInBounds_toArray, List.set_cons_zero, List.set_cons_succ, i64_w, i32_w]
    rfl
   refine pure_ (i := 7) (N := some 12) (v := ?_) (a' := ?_) (bm 13 137) rfl rfl (any_of HT_.out (by kernel_rfl)) (fun _ _ _ h => h) (Or.inl ⟨by rfl, ?_⟩) ?_ ?_
   rotate_left
   ·intro w'
    go_simp
    with_reducible rfl
   rotate_left
   ·simp only [Act.put, List.setIfInBounds_toArray, List.set_cons_zero, List.set_cons_succ, i64_w, i32_w]
    rfl
   refine take_ (i := 1) (N := some 6) (v := ?_) (a' := ?_) (bm 13 139) rfl rfl (take_ofW HT_.out HW_.out (by kernel_rfl)) (fun _ _ _ h => h) (Or.inl ⟨by rfl, ?_⟩) hHeld ?_ ?_
   rotate_left
   ·rintro w' ⟨s0, s1, s2⟩
    go_simp
    with_reducible rfl
   rotate_left
   ·simp only [Act.put, List.setIfInBounds_toArray, List.set_cons_zero, List.set_cons_succ, i64_w, i32_w]
    rfl
   refine take_ (i := 4) (N := some 9) (v := ?_) (a' := ?_) (bm 13 155) rfl rfl (take_ofW HT_.out HW_.out (by kernel_rfl)) (fun _ _ _ h => h) (Or.inl ⟨by rfl, ?_⟩) hHeld ?_ ?_
   rotate_left
   ·rintro w' ⟨s0, s1, s2⟩
    go_simp
    with_reducible rfl
   rotate_left
   ·simp only [Act.put, List.setIfInBounds_toArray, List.set_cons_zero, List.set_cons_succ, i64_w, i32_w]
    rfl
   refine take_ (i := 8) (N := some 13) (v := ?_) (a' := ?_) (bm 13 411) rfl rfl (take_ofW HT_.out HW_.out (by kernel_rfl)) (fun _ _ _ h => h) (Or.inl ⟨by rfl, ?_⟩) hHeld ?_ ?_
   rotate_left
   ·rintro w' ⟨s0, s1, s2⟩
    go_simp
    with_reducible rfl
   rotate_left
   ·simp only [Act.put, List.setIfInBounds_toArray, List.set_cons_zero, List.set_cons_succ, i64_w, i32_w]
    rfl
   refine join_ (σ := Value × Value × Value × Value × Nat) 1 (bm 13 4095) (fun s_ => [(7, s_.1), (10, s_.2.1), (11, s_.2.2.1), (14, s_.2.2.2.1), (3, .pointer (some ⟨s_.2.2.2.2, 0, none⟩)), (15, .agg #[.int .i64 a0_0, s_.2.1, s_.2.2.2.1])]) (fun s_ w' => (w'.cell? ⟨gb101, 0, none⟩ = some (.int .i64 a0_0) ∧ w'.cell? ⟨gb101, 1, none⟩ = some (.slice A0_1 l0_1.length c0_1) ∧ w'.cell? ⟨gb101, 2, none⟩ = some (.slice A0_2 l0_2.length c0_2)) ∧ (Kd.R Kd.bool 4 w' w.heap.size (fun _ => True) s_.2.1 y106) ∧ (Kd.R k54 54 w' w.heap.size (fun _ => True) s_.2.2.2.1 y112) ∧ (w'.heap[gb101]? = some (.cells #[.int .i64 a0_0, .slice A0_1 l0_1.length c0_1, .slice A0_2 l0_2.length c0_2] 29 (0, 0))) ∧ (w'.heap[gb102]? = some (.cells #[.int .i64 0, .slice none 0 0, .slice none 0 0] 29 (0, 0))) ∧ (w'.heap[s_.2.2.2.2]? = some (.cells #[.int .i64 0, .slice none 0 0, .slice none 0 0] 29 (0, 0))) ∧ (w.heap.size ≤ s_.2.2.2.2) ∧ (w.heap.size ≤ s_.2.2.2.2) ∧ (gb101 ≠ s_.2.2.2.2) ∧ (s_.2.2.2.2 ≠ gb101) ∧ (gb102 ≠ s_.2.2.2.2) ∧ (s_.2.2.2.2 ≠ gb102) ∧ (Below w.heap.size w w')) ?_ ?_
   rotate_left
   ·intro hJ2_5_6_9_11
    refine join_ (σ := Value × Value × Value × Value) 2 (bm 13 2047) (fun s_ => [(7, s_.1), (10, s_.2.1), (11, s_.2.2.1), (14, s_.2.2.2), (15, .agg #[.int .i64 a0_0, s_.2.1, s_.2.2.2])]) (fun s_ w' => (w'.cell? ⟨gb101, 0, none⟩ = some (.int .i64 a0_0) ∧ w'.cell? ⟨gb101, 1, none⟩ = some (.slice A0_1 l0_1.length c0_1) ∧ w'.cell? ⟨gb101, 2, none⟩ = some (.slice A0_2 l0_2.length c0_2)) ∧ (Kd.R Kd.bool 4 w' w.heap.size (fun _ => True) s_.2.1 y106) ∧ (Kd.R k54 54 w' w.heap.size (fun _ => True) s_.2.2.2 y112) ∧ (w'.heap[gb101]? = some (.cells #[.int .i64 a0_0, .slice A0_1 l0_1.length c0_1, .slice A0_2 l0_2.length c0_2] 29 (0, 0))) ∧ (w'.heap[gb102]? = some (.cells #[.int .i64 0, .slice none 0 0, .slice none 0 0] 29 (0, 0))) ∧ (Below w.heap.size w w')) ?_ ?_
    rotate_left
    ·intro hJ2_5_6_9
     refine join_ (σ := Value × Value × Value × Nat) 3 (bm 13 2559) (fun s_ => [(7, s_.1), (10, s_.2.1), (11, s_.2.2.1), (3, .pointer (some ⟨s_.2.2.2, 0, none⟩))]) (fun s_ w' => (w'.cell? ⟨gb101, 0, none⟩ = some (.int .i64 a0_0) ∧ w'.cell? ⟨gb101, 1, none⟩ = some (.slice A0_1 l0_1.length c0_1) ∧ w'.cell? ⟨gb101, 2, none⟩ = some (.slice A0_2 l0_2.length c0_2)) ∧ (Kd.R Kd.bool 4 w' w.heap.size (fun _ => True) s_.2.1 y106) ∧ (Kd.R k54 54 w' w.heap.size (fun _ => True) s_.2.2.1 y109) ∧ (w'.heap[gb101]? = some (.cells #[.int .i64 a0_0, .slice A0_1 l0_1.length c0_1, .slice A0_2 l0_2.length c0_2] 29 (0, 0))) ∧ (w'.heap[gb102]? = some (.cells #[.int .i64 0, .slice none 0 0, .slice none 0 0] 29 (0, 0))) ∧ (w'.heap[s_.2.2.2]? = some (.cells #[.int .i64 0, .slice none 0 0, .slice none 0 0] 29 (0, 0))) ∧ (w.heap.size ≤ s_.2.2.2) ∧ (w.heap.size ≤ s_.2.2.2) ∧ (gb101 ≠ s_.2.2.2) ∧ (s_.2.2.2 ≠ gb101) ∧ (gb102 ≠ s_.2.2.2) ∧ (s_.2.2.2 ≠ gb102) ∧ (Below w.heap.size w w')) ?_ ?_
     rotate_left
     ·intro hJ2_5_6_11
      refine join_ (σ := Value × Value × Value) 4 (bm 13 511) (fun s_ => [(7, s_.1), (10, s_.2.1), (11, s_.2.2)]) (fun s_ w' => (w'.cell? ⟨gb101, 0, none⟩ = some (.int .i64 a0_0) ∧ w'.cell? ⟨gb101, 1, none⟩ = some (.slice A0_1 l0_1.length c0_1) ∧ w'.cell? ⟨gb101, 2, none⟩ = some (.slice A0_2 l0_2.length c0_2)) ∧ (Kd.R Kd.bool 4 w' w.heap.size (fun _ => True) s_.2.1 y106) ∧ (Kd.R k54 54 w' w.heap.size (fun _ => True) s_.2.2 y109) ∧ (w'.heap[gb101]? = some (.cells #[.int .i64 a0_0, .slice A0_1 l0_1.length c0_1, .slice A0_2 l0_2.length c0_2] 29 (0, 0))) ∧ (w'.heap[gb102]? = some (.cells #[.int .i64 0, .slice none 0 0, .slice none 0 0] 29 (0, 0))) ∧ (Below w.heap.size w w')) ?_ ?_
      rotate_left
      ·intro hJ2_5_6
       refine join_ (σ := Value × Value × Nat) 4 (bm 13 2495) (fun s_ => [(7, s_.1), (10, s_.2.1), (3, .pointer (some ⟨s_.2.2, 0, none⟩))]) (fun s_ w' => (w'.cell? ⟨gb101, 0, none⟩ = some (.int .i64 a0_0) ∧ w'.cell? ⟨gb101, 1, none⟩ = some (.slice A0_1 l0_1.length c0_1) ∧ w'.cell? ⟨gb101, 2, none⟩ = some (.slice A0_2 l0_2.length c0_2)) ∧ (Kd.R Kd.bool 4 w' w.heap.size (fun _ => True) s_.2.1 y106) ∧ (w'.heap[gb101]? = some (.cells #[.int .i64 a0_0, .slice A0_1 l0_1.length c0_1, .slice A0_2 l0_2.length c0_2] 29 (0, 0))) ∧ (w'.heap[gb102]? = some (.cells #[.int .i64 0, .slice none 0 0, .slice none 0 0] 29 (0, 0))) ∧ (w'.heap[s_.2.2]? = some (.cells #[.int .i64 0, .slice none 0 0, .slice none 0 0] 29 (0, 0))) ∧ (w.heap.size ≤ s_.2.2) ∧ (w.heap.size ≤ s_.2.2) ∧ (gb101 ≠ s_.2.2) ∧ (s_.2.2 ≠ gb101) ∧ (gb102 ≠ s_.2.2) ∧ (s_.2.2 ≠ gb102) ∧ (Below w.heap.size w w')) ?_ ?_
       rotate_left
       ·intro hJ2_5_11
        refine join_ (σ := Value × Value × Nat) 4 (bm 13 2527) (fun s_ => [(7, s_.1), (11, s_.2.1), (3, .pointer (some ⟨s_.2.2, 0, none⟩))]) (fun s_ w' => (w'.cell? ⟨gb101, 0, none⟩ = some (.int .i64 a0_0) ∧ w'.cell? ⟨gb101, 1, none⟩ = some (.slice A0_1 l0_1.length c0_1) ∧ w'.cell? ⟨gb101, 2, none⟩ = some (.slice A0_2 l0_2.length c0_2)) ∧ (Kd.R Kd.bool 4 w' w.heap.size (fun _ => True) s_.1 y103) ∧ (Kd.R k54 54 w' w.heap.size (fun _ => True) s_.2.1 y109) ∧ (w'.heap[gb101]? = some (.cells #[.int .i64 a0_0, .slice A0_1 l0_1.length c0_1, .slice A0_2 l0_2.length c0_2] 29 (0, 0))) ∧ (w'.heap[gb102]? = some (.cells #[.int .i64 0, .slice none 0 0, .slice none 0 0] 29 (0, 0))) ∧ (w'.heap[s_.2.2]? = some (.cells #[.int .i64 0, .slice none 0 0, .slice none 0 0] 29 (0, 0))) ∧ (w.heap.size ≤ s_.2.2) ∧ (w.heap.size ≤ s_.2.2) ∧ (gb101 ≠ s_.2.2) ∧ (s_.2.2 ≠ gb101) ∧ (gb102 ≠ s_.2.2) ∧ (s_.2.2 ≠ gb102) ∧ (Below w.heap.size w w')) ?_ ?_
        rotate_left
        ·intro hJ2_6_11
         refine join_ (σ := Value × Value) 5 (bm 13 447) (fun s_ => [(7, s_.1), (10, s_.2)]) (fun s_ w' => (w'.cell? ⟨gb101, 0, none⟩ = some (.int .i64 a0_0) ∧ w'.cell? ⟨gb101, 1, none⟩ = some (.slice A0_1 l0_1.length c0_1) ∧ w'.cell? ⟨gb101, 2, none⟩ = some (.slice A0_2 l0_2.length c0_2)) ∧ (Kd.R Kd.bool 4 w' w.heap.size (fun _ => True) s_.2 y106) ∧ (w'.heap[gb101]? = some (.cells #[.int .i64 a0_0, .slice A0_1 l0_1.length c0_1, .slice A0_2 l0_2.length c0_2] 29 (0, 0))) ∧ (w'.heap[gb102]? = some (.cells #[.int .i64 0, .slice none 0 0, .slice none 0 0] 29 (0, 0))) ∧ (Below w.heap.size w w')) ?_ ?_
         rotate_left
         ·intro hJ2_5
          refine join_ (σ := Value × Value) 5 (bm 13 479) (fun s_ => [(7, s_.1), (11, s_.2)]) (fun s_ w' => (w'.cell? ⟨gb101, 0, none⟩ = some (.int .i64 a0_0) ∧ w'.cell? ⟨gb101, 1, none⟩ = some (.slice A0_1 l0_1.length c0_1) ∧ w'.cell? ⟨gb101, 2, none⟩ = some (.slice A0_2 l0_2.length c0_2)) ∧ (Kd.R Kd.bool 4 w' w.heap.size (fun _ => True) s_.1 y103) ∧ (Kd.R k54 54 w' w.heap.size (fun _ => True) s_.2 y109) ∧ (w'.heap[gb101]? = some (.cells #[.int .i64 a0_0, .slice A0_1 l0_1.length c0_1, .slice A0_2 l0_2.length c0_2] 29 (0, 0))) ∧ (w'.heap[gb102]? = some (.cells #[.int .i64 0, .slice none 0 0, .slice none 0 0] 29 (0, 0))) ∧ (Below w.heap.size w w')) ?_ ?_
          rotate_left
          ·intro hJ2_6
           refine join_ (σ := Value × Nat) 5 (bm 13 2463) (fun s_ => [(7, s_.1), (3, .pointer (some ⟨s_.2, 0, none⟩))]) (fun s_ w' => (w'.cell? ⟨gb101, 0, none⟩ = some (.int .i64 a0_0) ∧ w'.cell? ⟨gb101, 1, none⟩ = some (.slice A0_1 l0_1.length c0_1) ∧ w'.cell? ⟨gb101, 2, none⟩ = some (.slice A0_2 l0_2.length c0_2)) ∧ (Kd.R Kd.bool 4 w' w.heap.size (fun _ => True) s_.1 y103) ∧ (w'.heap[gb101]? = some (.cells #[.int .i64 a0_0, .slice A0_1 l0_1.length c0_1, .slice A0_2 l0_2.length c0_2] 29 (0, 0))) ∧ (w'.heap[gb102]? = some (.cells #[.int .i64 0, .slice none 0 0, .slice none 0 0] 29 (0, 0))) ∧ (w'.heap[s_.2]? = some (.cells #[.int .i64 0, .slice none 0 0, .slice none 0 0] 29 (0, 0))) ∧ (w.heap.size ≤ s_.2) ∧ (w.heap.size ≤ s_.2) ∧ (gb101 ≠ s_.2) ∧ (s_.2 ≠ gb101) ∧ (gb102 ≠ s_.2) ∧ (s_.2 ≠ gb102) ∧ (Below w.heap.size w w')) ?_ ?_
           rotate_left
           ·intro hJ2_11
            refine join_ (σ := Value × Nat) 5 (bm 13 2523) (fun s_ => [(11, s_.1), (3, .pointer (some ⟨s_.2, 0, none⟩))]) (fun s_ w' => (w'.cell? ⟨gb101, 0, none⟩ = some (.int .i64 a0_0) ∧ w'.cell? ⟨gb101, 1, none⟩ = some (.slice A0_1 l0_1.length c0_1) ∧ w'.cell? ⟨gb101, 2, none⟩ = some (.slice A0_2 l0_2.length c0_2)) ∧ (Kd.R k54 54 w' w.heap.size (fun _ => True) s_.1 y109) ∧ (w'.heap[gb101]? = some (.cells #[.int .i64 a0_0, .slice A0_1 l0_1.length c0_1, .slice A0_2 l0_2.length c0_2] 29 (0, 0))) ∧ (w'.heap[gb102]? = some (.cells #[.int .i64 0, .slice none 0 0, .slice none 0 0] 29 (0, 0))) ∧ (w'.heap[s_.2]? = some (.cells #[.int .i64 0, .slice none 0 0, .slice none 0 0] 29 (0, 0))) ∧ (w.heap.size ≤ s_.2) ∧ (w.heap.size ≤ s_.2) ∧ (gb101 ≠ s_.2) ∧ (s_.2 ≠ gb101) ∧ (gb102 ≠ s_.2) ∧ (s_.2 ≠ gb102) ∧ (Below w.heap.size w w')) ?_ ?_
            rotate_left
            ·intro hJ6_11
             refine join_ (σ := Value) 6 (bm 13 415) (fun s_ => [(7, s_)]) (fun s_ w' => (w'.cell? ⟨gb101, 0, none⟩ = some (.int .i64 a0_0) ∧ w'.cell? ⟨gb101, 1, none⟩ = some (.slice A0_1 l0_1.length c0_1) ∧ w'.cell? ⟨gb101, 2, none⟩ = some (.slice A0_2 l0_2.length c0_2)) ∧ (Kd.R Kd.bool 4 w' w.heap.size (fun _ => True) s_ y103) ∧ (w'.heap[gb101]? = some (.cells #[.int .i64 a0_0, .slice A0_1 l0_1.length c0_1, .slice A0_2 l0_2.length c0_2] 29 (0, 0))) ∧ (w'.heap[gb102]? = some (.cells #[.int .i64 0, .slice none 0 0, .slice none 0 0] 29 (0, 0))) ∧ (Below w.heap.size w w')) ?_ ?_
             rotate_left
             ·intro hJ2
              refine join_ (σ := Value) 6 (bm 13 475) (fun s_ => [(11, s_)]) (fun s_ w' => (w'.cell? ⟨gb101, 0, none⟩ = some (.int .i64 a0_0) ∧ w'.cell? ⟨gb101, 1, none⟩ = some (.slice A0_1 l0_1.length c0_1) ∧ w'.cell? ⟨gb101, 2, none⟩ = some (.slice A0_2 l0_2.length c0_2)) ∧ (Kd.R k54 54 w' w.heap.size (fun _ => True) s_ y109) ∧ (w'.heap[gb101]? = some (.cells #[.int .i64 a0_0, .slice A0_1 l0_1.length c0_1, .slice A0_2 l0_2.length c0_2] 29 (0, 0))) ∧ (w'.heap[gb102]? = some (.cells #[.int .i64 0, .slice none 0 0, .slice none 0 0] 29 (0, 0))) ∧ (Below w.heap.size w w')) ?_ ?_
              rotate_left
              ·intro hJ6
               refine join_ (σ := Nat) 6 (bm 13 2459) (fun s_ => [(3, .pointer (some ⟨s_, 0, none⟩))]) (fun s_ w' => (w'.cell? ⟨gb101, 0, none⟩ = some (.int .i64 a0_0) ∧ w'.cell? ⟨gb101, 1, none⟩ = some (.slice A0_1 l0_1.length c0_1) ∧ w'.cell? ⟨gb101, 2, none⟩ = some (.slice A0_2 l0_2.length c0_2)) ∧ (w'.heap[gb101]? = some (.cells #[.int .i64 a0_0, .slice A0_1 l0_1.length c0_1, .slice A0_2 l0_2.length c0_2] 29 (0, 0))) ∧ (w'.heap[gb102]? = some (.cells #[.int .i64 0, .slice none 0 0, .slice none 0 0] 29 (0, 0))) ∧ (w'.heap[s_]? = some (.cells #[.int .i64 0, .slice none 0 0, .slice none 0 0] 29 (0, 0))) ∧ (w.heap.size ≤ s_) ∧ (w.heap.size ≤ s_) ∧ (gb101 ≠ s_) ∧ (s_ ≠ gb101) ∧ (gb102 ≠ s_) ∧ (s_ ≠ gb102) ∧ (Below w.heap.size w w')) ?_ ?_
               rotate_left
               ·intro hJ11
                refine three_ (i := 2) (j := 6) (k := 11) (Ni := some 7) (Nj := some 11) (Nk := some 3) (bm 13 415) (bm 13 475) (bm 13 2459) rfl rfl rfl rfl rfl rfl (three_of HT_.out (by kernel_rfl)) (by decide) (by decide) (by decide) (fun K hK => ?_) (fun K hK => ?_) (fun K hK => ?_)
                ·skip
                 refine Kd.R_lit_step Kd.bool _ 4 ?hg (N := 7) ?hd (xs := ([] : List Bool)) (inner := []) (ok := fun _ => True) (okp := fun _ => True) ?hr ?hp (fun _ hk => hk) trivial (Below.refl _ _) (Nat.le_refl _) (by simp) ?_; (case hd => rfl); (case hg => rfl); (case hr => first | (go_simp; done) | (go_simp; rfl)); (case hp => exact (Reps.none _ _))
                 intro v104 w7 ho8 hb hg_ hnew_
                 clear hg_ hnew_
                 (first | rw [← Ny103.out] at ho8 | (simp only [Int.reduceToNat] at ho8; rw [← Ny103.out] at ho8))
                 have n0_ := Aside0.mk (Kd.R_lower ho8 (below_size (zB HB)))
                 have n1_ := kB BK101 hb
                 have n2_ := kB BK102 hb
                 have n3_ := bS HB hb
                 clear BK101
                 clear BK102
                 clear HB
                 have HO105 := n0_
                 have BK101 := n1_
                 have BK102 := n2_
                 have HB := n3_
                 clear n0_ n1_ n2_ n3_
                 clear hb ho8
                 refine hK.out _ _ ⟨bc0 BK101, bc1 BK101, bc2 BK101⟩ (fun hHeld => ?_)
                 clear hK K
                 refine norm_ (a' := ?_) ?_ ?_
                 rotate_left
                 ·show Act.put _ (some 7) _ = _
                  simp only [Act.put, List.setIfInBounds_toArray, List.set_cons_zero, List.set_cons_succ, i64_w, i32_w]
                  rfl
                 exact norm_ (by first | (simp only [putAll, Act.put, List.setIfInBounds_toArray, List.set_cons_zero, List.set_cons_succ]; done) | (simp only [putAll, Act.put, List.setIfInBounds_toArray, List.set_cons_zero, List.set_cons_succ]; rfl)) (hJ2 (v104) _ ⟨hHeld, (zR HO105), (zK BK101), (zK BK102), (zB HB)⟩)
                ·skip
                 refine Kd.R_lit_step k54 _ 54 ?hg (N := 11) ?hd (xs := ([] : List (S54))) (inner := []) (ok := fun _ => True) (okp := fun _ => True) ?hr ?hp (fun _ hk => hk) trivial (Below.refl _ _) (Nat.le_refl _) (by simp) ?_; (case hd => rfl); (case hg => rfl); (case hr => first | (go_simp; done) | (go_simp; rfl)); (case hp => exact (Reps.none _ _))
                 intro v110 w7 ho8 hb hg_ hnew_
                 clear hg_ hnew_
                 (first | rw [← Ny109.out] at ho8 | (simp only [Int.reduceToNat] at ho8; rw [← Ny109.out] at ho8))
                 have n0_ := Aside0.mk (Kd.R_lower ho8 (below_size (zB HB)))
                 have n1_ := kB BK101 hb
                 have n2_ := kB BK102 hb
                 have n3_ := bS HB hb
                 clear BK101
                 clear BK102
                 clear HB
                 have HO111 := n0_
                 have BK101 := n1_
                 have BK102 := n2_
                 have HB := n3_
                 clear n0_ n1_ n2_ n3_
                 clear hb ho8
                 refine hK.out _ _ ⟨bc0 BK101, bc1 BK101, bc2 BK101⟩ (fun hHeld => ?_)
                 clear hK K
                 refine norm_ (a' := ?_) ?_ ?_
                 rotate_left
                 ·show Act.put _ (some 11) _ = _
                  simp only [Act.put, List.setIfInBounds_toArray, List.set_cons_zero, List.set_cons_succ, i64_w, i32_w]
                  rfl
                 exact norm_ (by first | (simp only [putAll, Act.put, List.setIfInBounds_toArray, List.set_cons_zero, List.set_cons_succ]; done) | (simp only [putAll, Act.put, List.setIfInBounds_toArray, List.set_cons_zero, List.set_cons_succ]; rfl)) (hJ6 (v110) _ ⟨hHeld, (zR HO111), (zK BK101), (zK BK102), (zB HB)⟩)
                ·skip
                 refine box_step ?hg (N := 3) ?hd (cs := #[.int .i64 0, .slice none 0 0, .slice none 0 0]) (t := 29) ?hr ?_; (case hd => rfl); (case hg => rfl); (case hr => first | (go_simp; done) | (go_simp; rfl))
                 intro gb115 hg w7 hbox hb
                 have n0_ := kB BK101 hb
                 have n1_ := kB BK102 hb
                 have n2_ := bS HB hb
                 have n3_ := Aside0.mk (hbox)
                 have n4_ := gS HB hg
                 have n5_ := gS HB hg
                 have n6_ := Aside0.mk ((by rw [hg]; exact Nat.ne_of_lt (blk_lt (g := gb101) (o := .cells #[.int .i64 a0_0, .slice A0_1 l0_1.length c0_1, .slice A0_2 l0_2.length c0_2] 29 (0, 0)) (zK BK101)) : gb101 ≠ gb115))
                 have n7_ := Aside0.mk ((by rw [hg]; exact Nat.ne_of_gt (blk_lt (g := gb101) (o := .cells #[.int .i64 a0_0, .slice A0_1 l0_1.length c0_1, .slice A0_2 l0_2.length c0_2] 29 (0, 0)) (zK BK101)) : gb115 ≠ gb101))
                 have n8_ := Aside0.mk ((by rw [hg]; exact Nat.ne_of_lt (blk_lt (g := gb102) (o := .cells #[.int .i64 0, .slice none 0 0, .slice none 0 0] 29 (0, 0)) (zK BK102)) : gb102 ≠ gb115))
                 have n9_ := Aside0.mk ((by rw [hg]; exact Nat.ne_of_gt (blk_lt (g := gb102) (o := .cells #[.int .i64 0, .slice none 0 0, .slice none 0 0] 29 (0, 0)) (zK BK102)) : gb115 ≠ gb102))
                 clear BK101
                 clear BK102
                 clear HB
                 have BK101 := n0_
                 have BK102 := n1_
                 have HB := n2_
                 have BK115 := n3_
                 have GW115 := n4_
                 have GE115 := n5_
                 have NB101_115 := n6_
                 have NB115_101 := n7_
                 have NB102_115 := n8_
                 have NB115_102 := n9_
                 clear n0_ n1_ n2_ n3_ n4_ n5_ n6_ n7_ n8_ n9_
                 clear hb hbox hg
                 refine hK.out _ _ ⟨bc0 BK101, bc1 BK101, bc2 BK101⟩ (fun hHeld => ?_)
                 clear hK K
                 refine norm_ (a' := ?_) ?_ ?_
                 rotate_left
                 ·show Act.put _ (some 3) _ = _
                  simp only [Act.put, List.setIfInBounds_toArray, List.set_cons_zero, List.set_cons_succ, i64_w, i32_w]
                  rfl
                 exact norm_ (by first | (simp only [putAll, Act.put, List.setIfInBounds_toArray, List.set_cons_zero, List.set_cons_succ]; done) | (simp only [putAll, Act.put, List.setIfInBounds_toArray, List.set_cons_zero, List.set_cons_succ]; rfl)) (hJ11 (gb115) _ ⟨hHeld, (zK BK101), (zK BK102), (zK BK115), GW115.out, GE115.out, NB101_115.out, NB115_101.out, NB102_115.out, NB115_102.out, (zB HB)⟩)
               ·skip
                rintro gb115 w8 ⟨hS_, h0_, h1_, h2_, h3_, h4_, h5_, h6_, h7_, h8_, h9_⟩
                have n0_ : Aside0 (w8.heap[gb101]? = some (.cells #[.int .i64 a0_0, .slice A0_1 l0_1.length c0_1, .slice A0_2 l0_2.length c0_2] 29 (0, 0))) := ⟨h0_⟩
                have n1_ : Aside0 (w8.heap[gb102]? = some (.cells #[.int .i64 0, .slice none 0 0, .slice none 0 0] 29 (0, 0))) := ⟨h1_⟩
                have n2_ : Aside0 (w8.heap[gb115]? = some (.cells #[.int .i64 0, .slice none 0 0, .slice none 0 0] 29 (0, 0))) := ⟨h2_⟩
                have n3_ : Aside0 (w.heap.size ≤ gb115) := ⟨h3_⟩
                have n4_ : Aside0 (w.heap.size ≤ gb115) := ⟨h4_⟩
                have n5_ : Aside0 (gb101 ≠ gb115) := ⟨h5_⟩
                have n6_ : Aside0 (gb115 ≠ gb101) := ⟨h6_⟩
                have n7_ : Aside0 (gb102 ≠ gb115) := ⟨h7_⟩
                have n8_ : Aside0 (gb115 ≠ gb102) := ⟨h8_⟩
                have n9_ : Aside0 (Below w.heap.size w w8) := ⟨h9_⟩
                clear BK101
                clear BK102
                clear HB
                clear h0_ h1_ h2_ h3_ h4_ h5_ h6_ h7_ h8_ h9_
                have BK101 := n0_
                have BK102 := n1_
                have BK115 := n2_
                have GW115 := n3_
                have GE115 := n4_
                have NB101_115 := n5_
                have NB115_101 := n6_
                have NB102_115 := n7_
                have NB115_102 := n8_
                have HB := n9_
                clear n0_ n1_ n2_ n3_ n4_ n5_ n6_ n7_ n8_ n9_
                have hHeld : w8.cell? ⟨gb101, 0, none⟩ = some (.int .i64 a0_0) ∧ w8.cell? ⟨gb101, 1, none⟩ = some (.slice A0_1 l0_1.length c0_1) ∧ w8.cell? ⟨gb101, 2, none⟩ = some (.slice A0_2 l0_2.length c0_2) := hS_
                refine norm_ (a' := ?_) ?_ ?_
                rotate_left
                ·simp only [putAll, Act.put, List.setIfInBounds_toArray, List.set_cons_zero, List.set_cons_succ]
                 rfl
                refine two_ (i := 2) (j := 6) (Ni := some 7) (Nj := some 11) (bm 13 2463) (bm 13 2523) rfl rfl rfl rfl (two_of HT_.out (by kernel_rfl)) (by decide) (by decide) (fun K hK => ?_) (fun K hK => ?_)
                ·skip
                 refine Kd.R_lit_step Kd.bool _ 4 ?hg (N := 7) ?hd (xs := ([] : List Bool)) (inner := []) (ok := fun _ => True) (okp := fun _ => True) ?hr ?hp (fun _ hk => hk) trivial (Below.refl _ _) (Nat.le_refl _) (by simp) ?_; (case hd => rfl); (case hg => rfl); (case hr => first | (go_simp; done) | (go_simp; rfl)); (case hp => exact (Reps.none _ _))
                 intro v104 w9 ho10 hb hg_ hnew_
                 clear hg_ hnew_
                 (first | rw [← Ny103.out] at ho10 | (simp only [Int.reduceToNat] at ho10; rw [← Ny103.out] at ho10))
                 have n0_ := Aside0.mk (Kd.R_lower ho10 (below_size (zB HB)))
                 have n1_ := kB BK101 hb
                 have n2_ := kB BK102 hb
                 have n3_ := kB BK115 hb
                 have n4_ := bS HB hb
                 clear BK101
                 clear BK102
                 clear BK115
                 clear HB
                 have HO105 := n0_
                 have BK101 := n1_
                 have BK102 := n2_
                 have BK115 := n3_
                 have HB := n4_
                 clear n0_ n1_ n2_ n3_ n4_
                 clear hb ho10
                 refine hK.out _ _ ⟨bc0 BK101, bc1 BK101, bc2 BK101⟩ (fun hHeld => ?_)
                 clear hK K
                 refine norm_ (a' := ?_) ?_ ?_
                 rotate_left
                 ·show Act.put _ (some 7) _ = _
                  simp only [Act.put, List.setIfInBounds_toArray, List.set_cons_zero, List.set_cons_succ, i64_w, i32_w]
                  rfl
                 exact norm_ (by first | (simp only [putAll, Act.put, List.setIfInBounds_toArray, List.set_cons_zero, List.set_cons_succ]; done) | (simp only [putAll, Act.put, List.setIfInBounds_toArray, List.set_cons_zero, List.set_cons_succ]; rfl)) (hJ2_11 (v104, gb115) _ ⟨hHeld, (zR HO105), (zK BK101), (zK BK102), (zK BK115), GW115.out, GE115.out, NB101_115.out, NB115_101.out, NB102_115.out, NB115_102.out, (zB HB)⟩)
                ·skip
                 refine Kd.R_lit_step k54 _ 54 ?hg (N := 11) ?hd (xs := ([] : List (S54))) (inner := []) (ok := fun _ => True) (okp := fun _ => True) ?hr ?hp (fun _ hk => hk) trivial (Below.refl _ _) (Nat.le_refl _) (by simp) ?_; (case hd => rfl); (case hg => rfl); (case hr => first | (go_simp; done) | (go_simp; rfl)); (case hp => exact (Reps.none _ _))
                 intro v110 w9 ho10 hb hg_ hnew_
                 clear hg_ hnew_
                 (first | rw [← Ny109.out] at ho10 | (simp only [Int.reduceToNat] at ho10; rw [← Ny109.out] at ho10))
                 have n0_ := Aside0.mk (Kd.R_lower ho10 (below_size (zB HB)))
                 have n1_ := kB BK101 hb
                 have n2_ := kB BK102 hb
                 have n3_ := kB BK115 hb
                 have n4_ := bS HB hb
                 clear BK101
                 clear BK102
                 clear BK115
                 clear HB
                 have HO111 := n0_
                 have BK101 := n1_
                 have BK102 := n2_
                 have BK115 := n3_
                 have HB := n4_
                 clear n0_ n1_ n2_ n3_ n4_
                 clear hb ho10
                 refine hK.out _ _ ⟨bc0 BK101, bc1 BK101, bc2 BK101⟩ (fun hHeld => ?_)
                 clear hK K
                 refine norm_ (a' := ?_) ?_ ?_
                 rotate_left
                 ·show Act.put _ (some 11) _ = _
                  simp only [Act.put, List.setIfInBounds_toArray, List.set_cons_zero, List.set_cons_succ, i64_w, i32_w]
                  rfl
                 exact norm_ (by first | (simp only [putAll, Act.put, List.setIfInBounds_toArray, List.set_cons_zero, List.set_cons_succ]; done) | (simp only [putAll, Act.put, List.setIfInBounds_toArray, List.set_cons_zero, List.set_cons_succ]; rfl)) (hJ6_11 (v110, gb115) _ ⟨hHeld, (zR HO111), (zK BK101), (zK BK102), (zK BK115), GW115.out, GE115.out, NB101_115.out, NB115_101.out, NB102_115.out, NB115_102.out, (zB HB)⟩)
              ·skip
               rintro v110 w9 ⟨hS_, h0_, h1_, h2_, h3_⟩
               have n0_ : Aside0 (Kd.R k54 54 w9 w.heap.size (fun _ => True) v110 y109) := ⟨h0_⟩
               have n1_ : Aside0 (w9.heap[gb101]? = some (.cells #[.int .i64 a0_0, .slice A0_1 l0_1.length c0_1, .slice A0_2 l0_2.length c0_2] 29 (0, 0))) := ⟨h1_⟩
               have n2_ : Aside0 (w9.heap[gb102]? = some (.cells #[.int .i64 0, .slice none 0 0, .slice none 0 0] 29 (0, 0))) := ⟨h2_⟩
               have n3_ : Aside0 (Below w.heap.size w w9) := ⟨h3_⟩
               clear BK101
               clear BK102
               clear HB
               clear h0_ h1_ h2_ h3_
               have HO111 := n0_
               have BK101 := n1_
               have BK102 := n2_
               have HB := n3_
               clear n0_ n1_ n2_ n3_
               have hHeld : w9.cell? ⟨gb101, 0, none⟩ = some (.int .i64 a0_0) ∧ w9.cell? ⟨gb101, 1, none⟩ = some (.slice A0_1 l0_1.length c0_1) ∧ w9.cell? ⟨gb101, 2, none⟩ = some (.slice A0_2 l0_2.length c0_2) := hS_
               refine norm_ (a' := ?_) ?_ ?_
               rotate_left
               ·simp only [putAll, Act.put, List.setIfInBounds_toArray, List.set_cons_zero, List.set_cons_succ]
                rfl
               refine two_ (i := 2) (j := 11) (Ni := some 7) (Nj := some 3) (bm 13 479) (bm 13 2523) rfl rfl rfl rfl (two_of HT_.out (by kernel_rfl)) (by decide) (by decide) (fun K hK => ?_) (fun K hK => ?_)
               ·skip
                refine Kd.R_lit_step Kd.bool _ 4 ?hg (N := 7) ?hd (xs := ([] : List Bool)) (inner := []) (ok := fun _ => True) (okp := fun _ => True) ?hr ?hp (fun _ hk => hk) trivial (Below.refl _ _) (Nat.le_refl _) (by simp) ?_; (case hd => rfl); (case hg => rfl); (case hr => first | (go_simp; done) | (go_simp; rfl)); (case hp => exact (Reps.none _ _))
                intro v104 w10 ho11 hb hg_ hnew_
                clear hg_ hnew_
                (first | rw [← Ny103.out] at ho11 | (simp only [Int.reduceToNat] at ho11; rw [← Ny103.out] at ho11))
                have n0_ := Aside0.mk (Kd.R_below (zR HO111) hb)
                have n1_ := Aside0.mk (Kd.R_lower ho11 (below_size (zB HB)))
                have n2_ := kB BK101 hb
                have n3_ := kB BK102 hb
                have n4_ := bS HB hb
                clear HO111
                clear BK101
                clear BK102
                clear HB
                have HO111 := n0_
                have HO105 := n1_
                have BK101 := n2_
                have BK102 := n3_
                have HB := n4_
                clear n0_ n1_ n2_ n3_ n4_
                clear hb ho11
                refine hK.out _ _ ⟨bc0 BK101, bc1 BK101, bc2 BK101⟩ (fun hHeld => ?_)
                clear hK K
                refine norm_ (a' := ?_) ?_ ?_
                rotate_left
                ·show Act.put _ (some 7) _ = _
                 simp only [Act.put, List.setIfInBounds_toArray, List.set_cons_zero, List.set_cons_succ, i64_w, i32_w]
                 rfl
                exact norm_ (by first | (simp only [putAll, Act.put, List.setIfInBounds_toArray, List.set_cons_zero, List.set_cons_succ]; done) | (simp only [putAll, Act.put, List.setIfInBounds_toArray, List.set_cons_zero, List.set_cons_succ]; rfl)) (hJ2_6 (v104, v110) _ ⟨hHeld, (zR HO105), (zR HO111), (zK BK101), (zK BK102), (zB HB)⟩)
               ·skip
                refine box_step ?hg (N := 3) ?hd (cs := #[.int .i64 0, .slice none 0 0, .slice none 0 0]) (t := 29) ?hr ?_; (case hd => rfl); (case hg => rfl); (case hr => first | (go_simp; done) | (go_simp; rfl))
                intro gb115 hg w10 hbox hb
                have n0_ := Aside0.mk (Kd.R_below (zR HO111) hb)
                have n1_ := kB BK101 hb
                have n2_ := kB BK102 hb
                have n3_ := bS HB hb
                have n4_ := Aside0.mk (hbox)
                have n5_ := gS HB hg
                have n6_ := gS HB hg
                have n7_ := Aside0.mk ((by rw [hg]; exact Nat.ne_of_lt (blk_lt (g := gb101) (o := .cells #[.int .i64 a0_0, .slice A0_1 l0_1.length c0_1, .slice A0_2 l0_2.length c0_2] 29 (0, 0)) (zK BK101)) : gb101 ≠ gb115))
                have n8_ := Aside0.mk ((by rw [hg]; exact Nat.ne_of_gt (blk_lt (g := gb101) (o := .cells #[.int .i64 a0_0, .slice A0_1 l0_1.length c0_1, .slice A0_2 l0_2.length c0_2] 29 (0, 0)) (zK BK101)) : gb115 ≠ gb101))
                have n9_ := Aside0.mk ((by rw [hg]; exact Nat.ne_of_lt (blk_lt (g := gb102) (o := .cells #[.int .i64 0, .slice none 0 0, .slice none 0 0] 29 (0, 0)) (zK BK102)) : gb102 ≠ gb115))
                have n10_ := Aside0.mk ((by rw [hg]; exact Nat.ne_of_gt (blk_lt (g := gb102) (o := .cells #[.int .i64 0, .slice none 0 0, .slice none 0 0] 29 (0, 0)) (zK BK102)) : gb115 ≠ gb102))
                clear HO111
                clear BK101
                clear BK102
                clear HB
                have HO111 := n0_
                have BK101 := n1_
                have BK102 := n2_
                have HB := n3_
                have BK115 := n4_
                have GW115 := n5_
                have GE115 := n6_
                have NB101_115 := n7_
                have NB115_101 := n8_
                have NB102_115 := n9_
                have NB115_102 := n10_
                clear n0_ n1_ n2_ n3_ n4_ n5_ n6_ n7_ n8_ n9_ n10_
                clear hb hbox hg
                refine hK.out _ _ ⟨bc0 BK101, bc1 BK101, bc2 BK101⟩ (fun hHeld => ?_)
                clear hK K
                refine norm_ (a' := ?_) ?_ ?_
                rotate_left
                ·show Act.put _ (some 3) _ = _
                 simp only [Act.put, List.setIfInBounds_toArray, List.set_cons_zero, List.set_cons_succ, i64_w, i32_w]
                 rfl
                exact norm_ (by first | (simp only [putAll, Act.put, List.setIfInBounds_toArray, List.set_cons_zero, List.set_cons_succ]; done) | (simp only [putAll, Act.put, List.setIfInBounds_toArray, List.set_cons_zero, List.set_cons_succ]; rfl)) (hJ6_11 (v110, gb115) _ ⟨hHeld, (zR HO111), (zK BK101), (zK BK102), (zK BK115), GW115.out, GE115.out, NB101_115.out, NB115_101.out, NB102_115.out, NB115_102.out, (zB HB)⟩)
             ·skip
              rintro v104 w9 ⟨hS_, h0_, h1_, h2_, h3_⟩
              have n0_ : Aside0 (Kd.R Kd.bool 4 w9 w.heap.size (fun _ => True) v104 y103) := ⟨h0_⟩
              have n1_ : Aside0 (w9.heap[gb101]? = some (.cells #[.int .i64 a0_0, .slice A0_1 l0_1.length c0_1, .slice A0_2 l0_2.length c0_2] 29 (0, 0))) := ⟨h1_⟩
              have n2_ : Aside0 (w9.heap[gb102]? = some (.cells #[.int .i64 0, .slice none 0 0, .slice none 0 0] 29 (0, 0))) := ⟨h2_⟩
              have n3_ : Aside0 (Below w.heap.size w w9) := ⟨h3_⟩
              clear BK101
              clear BK102
              clear HB
              clear h0_ h1_ h2_ h3_
              have HO105 := n0_
              have BK101 := n1_
              have BK102 := n2_
              have HB := n3_
              clear n0_ n1_ n2_ n3_
              have hHeld : w9.cell? ⟨gb101, 0, none⟩ = some (.int .i64 a0_0) ∧ w9.cell? ⟨gb101, 1, none⟩ = some (.slice A0_1 l0_1.length c0_1) ∧ w9.cell? ⟨gb101, 2, none⟩ = some (.slice A0_2 l0_2.length c0_2) := hS_
              refine norm_ (a' := ?_) ?_ ?_
              rotate_left
              ·simp only [putAll, Act.put, List.setIfInBounds_toArray, List.set_cons_zero, List.set_cons_succ]
               rfl
              refine three_ (i := 5) (j := 6) (k := 11) (Ni := some 10) (Nj := some 11) (Nk := some 3) (bm 13 447) (bm 13 479) (bm 13 2463) rfl rfl rfl rfl rfl rfl (three_of HT_.out (by kernel_rfl)) (by decide) (by decide) (by decide) (fun K hK => ?_) (fun K hK => ?_) (fun K hK => ?_)
              ·skip
               refine Kd.R_append_rows_step Kd.bool (w0 := w) w.heap.size (by rfl) (.tmp 7) (.tmp 9) 22 4 (.bool false) 1 rfl Try.underlying22 info4 rfl (by decide) (by omega) v104 y103 l0_1 _ _ _ (fun _ => True) (fun _ => False) rfl rfl ?aO ?aR (fun _ _ h => h) (fun _ h => h.elim) ?aF ?aB ?aS ?aL ?_
               (case aR => repeat (first | exact (Kd.C_below HR0_1.out HB.out) | (with_reducible refine Kd.C_alloc ?_ _) | (with_reducible refine Kd.C_drewN ?_ _) | (with_reducible refine Kd.C_drew ?_)))
               (case aB => exact (zB HB))
               (case aF => exact (fun _ _ => trivial))
               (case aO => exact (zR HO105))
               (case aS => exact (below_size (zB HB)))
               (case aL => have := LMc2.out; omega)
               intro v107 w10 ho hb hg hat
               rw [← Ny106.out] at ho
               have n0_ := Aside0.mk (blk_grown (g := gb101) (o := .cells #[.int .i64 a0_0, .slice A0_1 l0_1.length c0_1, .slice A0_2 l0_2.length c0_2] 29 (0, 0)) (zK BK101) hg (Kd.R_ne HO105.out BK101.out (by decide)))
               have n1_ := Aside0.mk (blk_grown (g := gb102) (o := .cells #[.int .i64 0, .slice none 0 0, .slice none 0 0] 29 (0, 0)) (zK BK102) hg (Kd.R_ne HO105.out BK102.out (by decide)))
               have n2_ := Aside0.mk (hb)
               have n3_ := Aside0.mk (ho)
               clear BK101
               clear BK102
               clear HB
               clear HO105
               have BK101 := n0_
               have BK102 := n1_
               have HB := n2_
               have HO108 := n3_
               clear n0_ n1_ n2_ n3_
               clear ho hb hg hat
               refine hK.out _ _ ⟨bc0 BK101, bc1 BK101, bc2 BK101⟩ (fun hHeld => ?_)
               clear hK K
               refine norm_ (a' := ?_) ?_ ?_
               rotate_left
               ·show Act.put _ (some 10) _ = _
                simp only [Act.put, List.setIfInBounds_toArray, List.set_cons_zero, List.set_cons_succ, i64_w, i32_w]
                rfl
               exact norm_ (by first | (simp only [putAll, Act.put, List.setIfInBounds_toArray, List.set_cons_zero, List.set_cons_succ]; done) | (simp only [putAll, Act.put, List.setIfInBounds_toArray, List.set_cons_zero, List.set_cons_succ]; rfl)) (hJ2_5 (v104, v107) _ ⟨hHeld, (zR HO108), (zK BK101), (zK BK102), (zB HB)⟩)
              ·skip
               refine Kd.R_lit_step k54 _ 54 ?hg (N := 11) ?hd (xs := ([] : List (S54))) (inner := []) (ok := fun _ => True) (okp := fun _ => True) ?hr ?hp (fun _ hk => hk) trivial (Below.refl _ _) (Nat.le_refl _) (by simp) ?_; (case hd => rfl); (case hg => rfl); (case hr => first | (go_simp; done) | (go_simp; rfl)); (case hp => exact (Reps.none _ _))
               intro v110 w10 ho11 hb hg_ hnew_
               clear hg_ hnew_
               (first | rw [← Ny109.out] at ho11 | (simp only [Int.reduceToNat] at ho11; rw [← Ny109.out] at ho11))
               have n0_ := Aside0.mk (Kd.R_below (zR HO105) hb)
               have n1_ := Aside0.mk (Kd.R_lower ho11 (below_size (zB HB)))
               have n2_ := kB BK101 hb
               have n3_ := kB BK102 hb
               have n4_ := bS HB hb
               clear HO105
               clear BK101
               clear BK102
               clear HB
               have HO105 := n0_
               have HO111 := n1_
               have BK101 := n2_
               have BK102 := n3_
               have HB := n4_
               clear n0_ n1_ n2_ n3_ n4_
               clear hb ho11
               refine hK.out _ _ ⟨bc0 BK101, bc1 BK101, bc2 BK101⟩ (fun hHeld => ?_)
               clear hK K
               refine norm_ (a' := ?_) ?_ ?_
               rotate_left
               ·show Act.put _ (some 11) _ = _
                simp only [Act.put, List.setIfInBounds_toArray, List.set_cons_zero, List.set_cons_succ, i64_w, i32_w]
                rfl
               exact norm_ (by first | (simp only [putAll, Act.put, List.setIfInBounds_toArray, List.set_cons_zero, List.set_cons_succ]; done) | (simp only [putAll, Act.put, List.setIfInBounds_toArray, List.set_cons_zero, List.set_cons_succ]; rfl)) (hJ2_6 (v104, v110) _ ⟨hHeld, (zR HO105), (zR HO111), (zK BK101), (zK BK102), (zB HB)⟩)
              ·skip
               refine box_step ?hg (N := 3) ?hd (cs := #[.int .i64 0, .slice none 0 0, .slice none 0 0]) (t := 29) ?hr ?_; (case hd => rfl); (case hg => rfl); (case hr => first | (go_simp; done) | (go_simp; rfl))
               intro gb115 hg w10 hbox hb
               have n0_ := Aside0.mk (Kd.R_below (zR HO105) hb)
               have n1_ := kB BK101 hb
               have n2_ := kB BK102 hb
               have n3_ := bS HB hb
               have n4_ := Aside0.mk (hbox)
               have n5_ := gS HB hg
               have n6_ := gS HB hg
               have n7_ := Aside0.mk ((by rw [hg]; exact Nat.ne_of_lt (blk_lt (g := gb101) (o := .cells #[.int .i64 a0_0, .slice A0_1 l0_1.length c0_1, .slice A0_2 l0_2.length c0_2] 29 (0, 0)) (zK BK101)) : gb101 ≠ gb115))
               have n8_ := Aside0.mk ((by rw [hg]; exact Nat.ne_of_gt (blk_lt (g := gb101) (o := .cells #[.int .i64 a0_0, .slice A0_1 l0_1.length c0_1, .slice A0_2 l0_2.length c0_2] 29 (0, 0)) (zK BK101)) : gb115 ≠ gb101))
               have n9_ := Aside0.mk ((by rw [hg]; exact Nat.ne_of_lt (blk_lt (g := gb102) (o := .cells #[.int .i64 0, .slice none 0 0, .slice none 0 0] 29 (0, 0)) (zK BK102)) : gb102 ≠ gb115))
               have n10_ := Aside0.mk ((by rw [hg]; exact Nat.ne_of_gt (blk_lt (g := gb102) (o := .cells #[.int .i64 0, .slice none 0 0, .slice none 0 0] 29 (0, 0)) (zK BK102)) : gb115 ≠ gb102))
               clear HO105
               clear BK101
               clear BK102
               clear HB
               have HO105 := n0_
               have BK101 := n1_
               have BK102 := n2_
               have HB := n3_
               have BK115 := n4_
               have GW115 := n5_
               have GE115 := n6_
               have NB101_115 := n7_
               have NB115_101 := n8_
               have NB102_115 := n9_
               have NB115_102 := n10_
               clear n0_ n1_ n2_ n3_ n4_ n5_ n6_ n7_ n8_ n9_ n10_
               clear hb hbox hg
               refine hK.out _ _ ⟨bc0 BK101, bc1 BK101, bc2 BK101⟩ (fun hHeld => ?_)
               clear hK K
               refine norm_ (a' := ?_) ?_ ?_
               rotate_left
               ·show Act.put _ (some 3) _ = _
                simp only [Act.put, List.setIfInBounds_toArray, List.set_cons_zero, List.set_cons_succ, i64_w, i32_w]
                rfl
               exact norm_ (by first | (simp only [putAll, Act.put, List.setIfInBounds_toArray, List.set_cons_zero, List.set_cons_succ]; done) | (simp only [putAll, Act.put, List.setIfInBounds_toArray, List.set_cons_zero, List.set_cons_succ]; rfl)) (hJ2_11 (v104, gb115) _ ⟨hHeld, (zR HO105), (zK BK101), (zK BK102), (zK BK115), GW115.out, GE115.out, NB101_115.out, NB115_101.out, NB102_115.out, NB115_102.out, (zB HB)⟩)
            ·skip
             rintro ⟨v110, gb115⟩ w10 ⟨hS_, h0_, h1_, h2_, h3_, h4_, h5_, h6_, h7_, h8_, h9_, h10_⟩
             have n0_ : Aside0 (Kd.R k54 54 w10 w.heap.size (fun _ => True) v110 y109) := ⟨h0_⟩
             have n1_ : Aside0 (w10.heap[gb101]? = some (.cells #[.int .i64 a0_0, .slice A0_1 l0_1.length c0_1, .slice A0_2 l0_2.length c0_2] 29 (0, 0))) := ⟨h1_⟩
             have n2_ : Aside0 (w10.heap[gb102]? = some (.cells #[.int .i64 0, .slice none 0 0, .slice none 0 0] 29 (0, 0))) := ⟨h2_⟩
             have n3_ : Aside0 (w10.heap[gb115]? = some (.cells #[.int .i64 0, .slice none 0 0, .slice none 0 0] 29 (0, 0))) := ⟨h3_⟩
             have n4_ : Aside0 (w.heap.size ≤ gb115) := ⟨h4_⟩
             have n5_ : Aside0 (w.heap.size ≤ gb115) := ⟨h5_⟩
             have n6_ : Aside0 (gb101 ≠ gb115) := ⟨h6_⟩
             have n7_ : Aside0 (gb115 ≠ gb101) := ⟨h7_⟩
             have n8_ : Aside0 (gb102 ≠ gb115) := ⟨h8_⟩
             have n9_ : Aside0 (gb115 ≠ gb102) := ⟨h9_⟩
             have n10_ : Aside0 (Below w.heap.size w w10) := ⟨h10_⟩
             clear BK101
             clear BK102
             clear HB
             clear h0_ h1_ h2_ h3_ h4_ h5_ h6_ h7_ h8_ h9_ h10_
             have HO111 := n0_
             have BK101 := n1_
             have BK102 := n2_
             have BK115 := n3_
             have GW115 := n4_
             have GE115 := n5_
             have NB101_115 := n6_
             have NB115_101 := n7_
             have NB102_115 := n8_
             have NB115_102 := n9_
             have HB := n10_
             clear n0_ n1_ n2_ n3_ n4_ n5_ n6_ n7_ n8_ n9_ n10_
             have hHeld : w10.cell? ⟨gb101, 0, none⟩ = some (.int .i64 a0_0) ∧ w10.cell? ⟨gb101, 1, none⟩ = some (.slice A0_1 l0_1.length c0_1) ∧ w10.cell? ⟨gb101, 2, none⟩ = some (.slice A0_2 l0_2.length c0_2) := hS_
             refine norm_ (a' := ?_) ?_ ?_
             rotate_left
             ·simp only [putAll, Act.put, List.setIfInBounds_toArray, List.set_cons_zero, List.set_cons_succ]
              rfl
             refine one_ (i := 2) (N := some 7) (bm 13 2527) rfl rfl (one_of HT_.out (by kernel_rfl)) (by decide) (fun K hK => ?_)
             refine Kd.R_lit_step Kd.bool _ 4 ?hg (N := 7) ?hd (xs := ([] : List Bool)) (inner := []) (ok := fun _ => True) (okp := fun _ => True) ?hr ?hp (fun _ hk => hk) trivial (Below.refl _ _) (Nat.le_refl _) (by simp) ?_; (case hd => rfl); (case hg => rfl); (case hr => first | (go_simp; done) | (go_simp; rfl)); (case hp => exact (Reps.none _ _))
             intro v104 w11 ho12 hb hg_ hnew_
             clear hg_ hnew_
             (first | rw [← Ny103.out] at ho12 | (simp only [Int.reduceToNat] at ho12; rw [← Ny103.out] at ho12))
             have n0_ := Aside0.mk (Kd.R_below (zR HO111) hb)
             have n1_ := Aside0.mk (Kd.R_lower ho12 (below_size (zB HB)))
             have n2_ := kB BK101 hb
             have n3_ := kB BK102 hb
             have n4_ := kB BK115 hb
             have n5_ := bS HB hb
             clear HO111
             clear BK101
             clear BK102
             clear BK115
             clear HB
             have HO111 := n0_
             have HO105 := n1_
             have BK101 := n2_
             have BK102 := n3_
             have BK115 := n4_
             have HB := n5_
             clear n0_ n1_ n2_ n3_ n4_ n5_
             clear hb ho12
             refine hK.out _ _ ⟨bc0 BK101, bc1 BK101, bc2 BK101⟩ (fun hHeld => ?_)
             clear hK K
             refine norm_ (a' := ?_) ?_ ?_
             rotate_left
             ·show Act.put _ (some 7) _ = _
              simp only [Act.put, List.setIfInBounds_toArray, List.set_cons_zero, List.set_cons_succ, i64_w, i32_w]
              rfl
             exact norm_ (by first | (simp only [putAll, Act.put, List.setIfInBounds_toArray, List.set_cons_zero, List.set_cons_succ]; done) | (simp only [putAll, Act.put, List.setIfInBounds_toArray, List.set_cons_zero, List.set_cons_succ]; rfl)) (hJ2_6_11 (v104, v110, gb115) _ ⟨hHeld, (zR HO105), (zR HO111), (zK BK101), (zK BK102), (zK BK115), GW115.out, GE115.out, NB101_115.out, NB115_101.out, NB102_115.out, NB115_102.out, (zB HB)⟩)
           ·skip
            rintro ⟨v104, gb115⟩ w10 ⟨hS_, h0_, h1_, h2_, h3_, h4_, h5_, h6_, h7_, h8_, h9_, h10_⟩
            have n0_ : Aside0 (Kd.R Kd.bool 4 w10 w.heap.size (fun _ => True) v104 y103) := ⟨h0_⟩
            have n1_ : Aside0 (w10.heap[gb101]? = some (.cells #[.int .i64 a0_0, .slice A0_1 l0_1.length c0_1, .slice A0_2 l0_2.length c0_2] 29 (0, 0))) := ⟨h1_⟩
            have n2_ : Aside0 (w10.heap[gb102]? = some (.cells #[.int .i64 0, .slice none 0 0, .slice none 0 0] 29 (0, 0))) := ⟨h2_⟩
            have n3_ : Aside0 (w10.heap[gb115]? = some (.cells #[.int .i64 0, .slice none 0 0, .slice none 0 0] 29 (0, 0))) := ⟨h3_⟩
            have n4_ : Aside0 (w.heap.size ≤ gb115) := ⟨h4_⟩
            have n5_ : Aside0 (w.heap.size ≤ gb115) := ⟨h5_⟩
            have n6_ : Aside0 (gb101 ≠ gb115) := ⟨h6_⟩
            have n7_ : Aside0 (gb115 ≠ gb101) := ⟨h7_⟩
            have n8_ : Aside0 (gb102 ≠ gb115) := ⟨h8_⟩
            have n9_ : Aside0 (gb115 ≠ gb102) := ⟨h9_⟩
            have n10_ : Aside0 (Below w.heap.size w w10) := ⟨h10_⟩
            clear BK101
            clear BK102
            clear HB
            clear h0_ h1_ h2_ h3_ h4_ h5_ h6_ h7_ h8_ h9_ h10_
            have HO105 := n0_
            have BK101 := n1_
            have BK102 := n2_
            have BK115 := n3_
            have GW115 := n4_
            have GE115 := n5_
            have NB101_115 := n6_
            have NB115_101 := n7_
            have NB102_115 := n8_
            have NB115_102 := n9_
            have HB := n10_
            clear n0_ n1_ n2_ n3_ n4_ n5_ n6_ n7_ n8_ n9_ n10_
            have hHeld : w10.cell? ⟨gb101, 0, none⟩ = some (.int .i64 a0_0) ∧ w10.cell? ⟨gb101, 1, none⟩ = some (.slice A0_1 l0_1.length c0_1) ∧ w10.cell? ⟨gb101, 2, none⟩ = some (.slice A0_2 l0_2.length c0_2) := hS_
            refine norm_ (a' := ?_) ?_ ?_
            rotate_left
            ·simp only [putAll, Act.put, List.setIfInBounds_toArray, List.set_cons_zero, List.set_cons_succ]
             rfl
            refine two_ (i := 5) (j := 6) (Ni := some 10) (Nj := some 11) (bm 13 2495) (bm 13 2527) rfl rfl rfl rfl (two_of HT_.out (by kernel_rfl)) (by decide) (by decide) (fun K hK => ?_) (fun K hK => ?_)
            ·skip
             refine Kd.R_append_rows_step Kd.bool (w0 := w) w.heap.size (by rfl) (.tmp 7) (.tmp 9) 22 4 (.bool false) 1 rfl Try.underlying22 info4 rfl (by decide) (by omega) v104 y103 l0_1 _ _ _ (fun _ => True) (fun _ => False) rfl rfl ?aO ?aR (fun _ _ h => h) (fun _ h => h.elim) ?aF ?aB ?aS ?aL ?_
             (case aR => repeat (first | exact (Kd.C_below HR0_1.out HB.out) | (with_reducible refine Kd.C_alloc ?_ _) | (with_reducible refine Kd.C_drewN ?_ _) | (with_reducible refine Kd.C_drew ?_)))
             (case aB => exact (zB HB))
             (case aF => exact (fun _ _ => trivial))
             (case aO => exact (zR HO105))
             (case aS => exact (below_size (zB HB)))
             (case aL => have := LMc2.out; omega)
             intro v107 w11 ho hb hg hat
             rw [← Ny106.out] at ho
             have n0_ := Aside0.mk (blk_grown (g := gb101) (o := .cells #[.int .i64 a0_0, .slice A0_1 l0_1.length c0_1, .slice A0_2 l0_2.length c0_2] 29 (0, 0)) (zK BK101) hg (Kd.R_ne HO105.out BK101.out (by decide)))
             have n1_ := Aside0.mk (blk_grown (g := gb102) (o := .cells #[.int .i64 0, .slice none 0 0, .slice none 0 0] 29 (0, 0)) (zK BK102) hg (Kd.R_ne HO105.out BK102.out (by decide)))
             have n2_ := Aside0.mk (blk_grown (g := gb115) (o := .cells #[.int .i64 0, .slice none 0 0, .slice none 0 0] 29 (0, 0)) (zK BK115) hg (Kd.R_ne HO105.out BK115.out (by decide)))
             have n3_ := Aside0.mk (hb)
             have n4_ := Aside0.mk (ho)
             clear BK101
             clear BK102
             clear BK115
             clear HB
             clear HO105
             have BK101 := n0_
             have BK102 := n1_
             have BK115 := n2_
             have HB := n3_
             have HO108 := n4_
             clear n0_ n1_ n2_ n3_ n4_
             clear ho hb hg hat
             refine hK.out _ _ ⟨bc0 BK101, bc1 BK101, bc2 BK101⟩ (fun hHeld => ?_)
             clear hK K
             refine norm_ (a' := ?_) ?_ ?_
             rotate_left
             ·show Act.put _ (some 10) _ = _
              simp only [Act.put, List.setIfInBounds_toArray, List.set_cons_zero, List.set_cons_succ, i64_w, i32_w]
              rfl
             exact norm_ (by first | (simp only [putAll, Act.put, List.setIfInBounds_toArray, List.set_cons_zero, List.set_cons_succ]; done) | (simp only [putAll, Act.put, List.setIfInBounds_toArray, List.set_cons_zero, List.set_cons_succ]; rfl)) (hJ2_5_11 (v104, v107, gb115) _ ⟨hHeld, (zR HO108), (zK BK101), (zK BK102), (zK BK115), GW115.out, GE115.out, NB101_115.out, NB115_101.out, NB102_115.out, NB115_102.out, (zB HB)⟩)
            ·skip
             refine Kd.R_lit_step k54 _ 54 ?hg (N := 11) ?hd (xs := ([] : List (S54))) (inner := []) (ok := fun _ => True) (okp := fun _ => True) ?hr ?hp (fun _ hk => hk) trivial (Below.refl _ _) (Nat.le_refl _) (by simp) ?_; (case hd => rfl); (case hg => rfl); (case hr => first | (go_simp; done) | (go_simp; rfl)); (case hp => exact (Reps.none _ _))
             intro v110 w11 ho12 hb hg_ hnew_
             clear hg_ hnew_
             (first | rw [← Ny109.out] at ho12 | (simp only [Int.reduceToNat] at ho12; rw [← Ny109.out] at ho12))
             have n0_ := Aside0.mk (Kd.R_below (zR HO105) hb)
             have n1_ := Aside0.mk (Kd.R_lower ho12 (below_size (zB HB)))
             have n2_ := kB BK101 hb
             have n3_ := kB BK102 hb
             have n4_ := kB BK115 hb
             have n5_ := bS HB hb
             clear HO105
             clear BK101
             clear BK102
             clear BK115
             clear HB
             have HO105 := n0_
             have HO111 := n1_
             have BK101 := n2_
             have BK102 := n3_
             have BK115 := n4_
             have HB := n5_
             clear n0_ n1_ n2_ n3_ n4_ n5_
             clear hb ho12
             refine hK.out _ _ ⟨bc0 BK101, bc1 BK101, bc2 BK101⟩ (fun hHeld => ?_)
             clear hK K
             refine norm_ (a' := ?_) ?_ ?_
             rotate_left
             ·show Act.put _ (some 11) _ = _
              simp only [Act.put, List.setIfInBounds_toArray, List.set_cons_zero, List.set_cons_succ, i64_w, i32_w]
              rfl
             exact norm_ (by first | (simp only [putAll, Act.put, List.setIfInBounds_toArray, List.set_cons_zero, List.set_cons_succ]; done) | (simp only [putAll, Act.put, List.setIfInBounds_toArray, List.set_cons_zero, List.set_cons_succ]; rfl)) (hJ2_6_11 (v104, v110, gb115) _ ⟨hHeld, (zR HO105), (zR HO111), (zK BK101), (zK BK102), (zK BK115), GW115.out, GE115.out, NB101_115.out, NB115_101.out, NB102_115.out, NB115_102.out, (zB HB)⟩)
          ·skip
           rintro ⟨v104, v110⟩ w11 ⟨hS_, h0_, h1_, h2_, h3_, h4_⟩
           have n0_ : Aside0 (Kd.R Kd.bool 4 w11 w.heap.size (fun _ => True) v104 y103) := ⟨h0_⟩
           have n1_ : Aside0 (Kd.R k54 54 w11 w.heap.size (fun _ => True) v110 y109) := ⟨h1_⟩
           have n2_ : Aside0 (w11.heap[gb101]? = some (.cells #[.int .i64 a0_0, .slice A0_1 l0_1.length c0_1, .slice A0_2 l0_2.length c0_2] 29 (0, 0))) := ⟨h2_⟩
           have n3_ : Aside0 (w11.heap[gb102]? = some (.cells #[.int .i64 0, .slice none 0 0, .slice none 0 0] 29 (0, 0))) := ⟨h3_⟩
           have n4_ : Aside0 (Below w.heap.size w w11) := ⟨h4_⟩
           clear BK101
           clear BK102
           clear HB
           clear h0_ h1_ h2_ h3_ h4_
           have HO105 := n0_
           have HO111 := n1_
           have BK101 := n2_
           have BK102 := n3_
           have HB := n4_
           clear n0_ n1_ n2_ n3_ n4_
           have hHeld : w11.cell? ⟨gb101, 0, none⟩ = some (.int .i64 a0_0) ∧ w11.cell? ⟨gb101, 1, none⟩ = some (.slice A0_1 l0_1.length c0_1) ∧ w11.cell? ⟨gb101, 2, none⟩ = some (.slice A0_2 l0_2.length c0_2) := hS_
           refine norm_ (a' := ?_) ?_ ?_
           rotate_left
           ·simp only [putAll, Act.put, List.setIfInBounds_toArray, List.set_cons_zero, List.set_cons_succ]
            rfl
           refine two_ (i := 5) (j := 11) (Ni := some 10) (Nj := some 3) (bm 13 511) (bm 13 2527) rfl rfl rfl rfl (two_of HT_.out (by kernel_rfl)) (by decide) (by decide) (fun K hK => ?_) (fun K hK => ?_)
           ·skip
            refine Kd.R_append_rows_step Kd.bool (w0 := w) w.heap.size (by rfl) (.tmp 7) (.tmp 9) 22 4 (.bool false) 1 rfl Try.underlying22 info4 rfl (by decide) (by omega) v104 y103 l0_1 _ _ _ (fun _ => True) (fun _ => False) rfl rfl ?aO ?aR (fun _ _ h => h) (fun _ h => h.elim) ?aF ?aB ?aS ?aL ?_
            (case aR => repeat (first | exact (Kd.C_below HR0_1.out HB.out) | (with_reducible refine Kd.C_alloc ?_ _) | (with_reducible refine Kd.C_drewN ?_ _) | (with_reducible refine Kd.C_drew ?_)))
            (case aB => exact (zB HB))
            (case aF => exact (fun _ _ => trivial))
            (case aO => exact (zR HO105))
            (case aS => exact (below_size (zB HB)))
            (case aL => have := LMc2.out; omega)
            intro v107 w12 ho hb hg hat
            rw [← Ny106.out] at ho
            have n0_ := Aside0.mk (blk_grown (g := gb101) (o := .cells #[.int .i64 a0_0, .slice A0_1 l0_1.length c0_1, .slice A0_2 l0_2.length c0_2] 29 (0, 0)) (zK BK101) hg (Kd.R_ne HO105.out BK101.out (by decide)))
            have n1_ := Aside0.mk (blk_grown (g := gb102) (o := .cells #[.int .i64 0, .slice none 0 0, .slice none 0 0] 29 (0, 0)) (zK BK102) hg (Kd.R_ne HO105.out BK102.out (by decide)))
            have n2_ := Aside0.mk (Kd.R_over' (zR HO111) (Kd.R_typed (zR HO105)) (by decide) hg)
            have n3_ := Aside0.mk (hb)
            have n4_ := Aside0.mk (ho)
            clear BK101
            clear BK102
            clear HO111
            clear HB
            clear HO105
            have BK101 := n0_
            have BK102 := n1_
            have HO111 := n2_
            have HB := n3_
            have HO108 := n4_
            clear n0_ n1_ n2_ n3_ n4_
            clear ho hb hg hat
            refine hK.out _ _ ⟨bc0 BK101, bc1 BK101, bc2 BK101⟩ (fun hHeld => ?_)
            clear hK K
            refine norm_ (a' := ?_) ?_ ?_
            rotate_left
            ·show Act.put _ (some 10) _ = _
             simp only [Act.put, List.setIfInBounds_toArray, List.set_cons_zero, List.set_cons_succ, i64_w, i32_w]
             rfl
            exact norm_ (by first | (simp only [putAll, Act.put, List.setIfInBounds_toArray, List.set_cons_zero, List.set_cons_succ]; done) | (simp only [putAll, Act.put, List.setIfInBounds_toArray, List.set_cons_zero, List.set_cons_succ]; rfl)) (hJ2_5_6 (v104, v107, v110) _ ⟨hHeld, (zR HO108), (zR HO111), (zK BK101), (zK BK102), (zB HB)⟩)
           ·skip
            refine box_step ?hg (N := 3) ?hd (cs := #[.int .i64 0, .slice none 0 0, .slice none 0 0]) (t := 29) ?hr ?_; (case hd => rfl); (case hg => rfl); (case hr => first | (go_simp; done) | (go_simp; rfl))
            intro gb115 hg w12 hbox hb
            have n0_ := Aside0.mk (Kd.R_below (zR HO105) hb)
            have n1_ := Aside0.mk (Kd.R_below (zR HO111) hb)
            have n2_ := kB BK101 hb
            have n3_ := kB BK102 hb
            have n4_ := bS HB hb
            have n5_ := Aside0.mk (hbox)
            have n6_ := gS HB hg
            have n7_ := gS HB hg
            have n8_ := Aside0.mk ((by rw [hg]; exact Nat.ne_of_lt (blk_lt (g := gb101) (o := .cells #[.int .i64 a0_0, .slice A0_1 l0_1.length c0_1, .slice A0_2 l0_2.length c0_2] 29 (0, 0)) (zK BK101)) : gb101 ≠ gb115))
            have n9_ := Aside0.mk ((by rw [hg]; exact Nat.ne_of_gt (blk_lt (g := gb101) (o := .cells #[.int .i64 a0_0, .slice A0_1 l0_1.length c0_1, .slice A0_2 l0_2.length c0_2] 29 (0, 0)) (zK BK101)) : gb115 ≠ gb101))
            have n10_ := Aside0.mk ((by rw [hg]; exact Nat.ne_of_lt (blk_lt (g := gb102) (o := .cells #[.int .i64 0, .slice none 0 0, .slice none 0 0] 29 (0, 0)) (zK BK102)) : gb102 ≠ gb115))
            have n11_ := Aside0.mk ((by rw [hg]; exact Nat.ne_of_gt (blk_lt (g := gb102) (o := .cells #[.int .i64 0, .slice none 0 0, .slice none 0 0] 29 (0, 0)) (zK BK102)) : gb115 ≠ gb102))
            clear HO105
            clear HO111
            clear BK101
            clear BK102
            clear HB
            have HO105 := n0_
            have HO111 := n1_
            have BK101 := n2_
            have BK102 := n3_
            have HB := n4_
            have BK115 := n5_
            have GW115 := n6_
            have GE115 := n7_
            have NB101_115 := n8_
            have NB115_101 := n9_
            have NB102_115 := n10_
            have NB115_102 := n11_
            clear n0_ n1_ n2_ n3_ n4_ n5_ n6_ n7_ n8_ n9_ n10_ n11_
            clear hb hbox hg
            refine hK.out _ _ ⟨bc0 BK101, bc1 BK101, bc2 BK101⟩ (fun hHeld => ?_)
            clear hK K
            refine norm_ (a' := ?_) ?_ ?_
            rotate_left
            ·show Act.put _ (some 3) _ = _
             simp only [Act.put, List.setIfInBounds_toArray, List.set_cons_zero, List.set_cons_succ, i64_w, i32_w]
             rfl
            exact norm_ (by first | (simp only [putAll, Act.put, List.setIfInBounds_toArray, List.set_cons_zero, List.set_cons_succ]; done) | (simp only [putAll, Act.put, List.setIfInBounds_toArray, List.set_cons_zero, List.set_cons_succ]; rfl)) (hJ2_6_11 (v104, v110, gb115) _ ⟨hHeld, (zR HO105), (zR HO111), (zK BK101), (zK BK102), (zK BK115), GW115.out, GE115.out, NB101_115.out, NB115_101.out, NB102_115.out, NB115_102.out, (zB HB)⟩)
         ·skip
          rintro ⟨v104, v107⟩ w10 ⟨hS_, h0_, h1_, h2_, h3_⟩
          have n0_ : Aside0 (Kd.R Kd.bool 4 w10 w.heap.size (fun _ => True) v107 y106) := ⟨h0_⟩
          have n1_ : Aside0 (w10.heap[gb101]? = some (.cells #[.int .i64 a0_0, .slice A0_1 l0_1.length c0_1, .slice A0_2 l0_2.length c0_2] 29 (0, 0))) := ⟨h1_⟩
          have n2_ : Aside0 (w10.heap[gb102]? = some (.cells #[.int .i64 0, .slice none 0 0, .slice none 0 0] 29 (0, 0))) := ⟨h2_⟩
          have n3_ : Aside0 (Below w.heap.size w w10) := ⟨h3_⟩
          clear BK101
          clear BK102
          clear HB
          clear h0_ h1_ h2_ h3_
          have HO108 := n0_
          have BK101 := n1_
          have BK102 := n2_
          have HB := n3_
          clear n0_ n1_ n2_ n3_
          have hHeld : w10.cell? ⟨gb101, 0, none⟩ = some (.int .i64 a0_0) ∧ w10.cell? ⟨gb101, 1, none⟩ = some (.slice A0_1 l0_1.length c0_1) ∧ w10.cell? ⟨gb101, 2, none⟩ = some (.slice A0_2 l0_2.length c0_2) := hS_
          refine norm_ (a' := ?_) ?_ ?_
          rotate_left
          ·simp only [putAll, Act.put, List.setIfInBounds_toArray, List.set_cons_zero, List.set_cons_succ]
           rfl
          refine two_ (i := 6) (j := 11) (Ni := some 11) (Nj := some 3) (bm 13 511) (bm 13 2495) rfl rfl rfl rfl (two_of HT_.out (by kernel_rfl)) (by decide) (by decide) (fun K hK => ?_) (fun K hK => ?_)
          ·skip
           refine Kd.R_lit_step k54 _ 54 ?hg (N := 11) ?hd (xs := ([] : List (S54))) (inner := []) (ok := fun _ => True) (okp := fun _ => True) ?hr ?hp (fun _ hk => hk) trivial (Below.refl _ _) (Nat.le_refl _) (by simp) ?_; (case hd => rfl); (case hg => rfl); (case hr => first | (go_simp; done) | (go_simp; rfl)); (case hp => exact (Reps.none _ _))
           intro v110 w11 ho12 hb hg_ hnew_
           clear hg_ hnew_
           (first | rw [← Ny109.out] at ho12 | (simp only [Int.reduceToNat] at ho12; rw [← Ny109.out] at ho12))
           have n0_ := Aside0.mk (Kd.R_below (zR HO108) hb)
           have n1_ := Aside0.mk (Kd.R_lower ho12 (below_size (zB HB)))
           have n2_ := kB BK101 hb
           have n3_ := kB BK102 hb
           have n4_ := bS HB hb
           clear HO108
           clear BK101
           clear BK102
           clear HB
           have HO108 := n0_
           have HO111 := n1_
           have BK101 := n2_
           have BK102 := n3_
           have HB := n4_
           clear n0_ n1_ n2_ n3_ n4_
           clear hb ho12
           refine hK.out _ _ ⟨bc0 BK101, bc1 BK101, bc2 BK101⟩ (fun hHeld => ?_)
           clear hK K
           refine norm_ (a' := ?_) ?_ ?_
           rotate_left
           ·show Act.put _ (some 11) _ = _
            simp only [Act.put, List.setIfInBounds_toArray, List.set_cons_zero, List.set_cons_succ, i64_w, i32_w]
            rfl
           exact norm_ (by first | (simp only [putAll, Act.put, List.setIfInBounds_toArray, List.set_cons_zero, List.set_cons_succ]; done) | (simp only [putAll, Act.put, List.setIfInBounds_toArray, List.set_cons_zero, List.set_cons_succ]; rfl)) (hJ2_5_6 (v104, v107, v110) _ ⟨hHeld, (zR HO108), (zR HO111), (zK BK101), (zK BK102), (zB HB)⟩)
          ·skip
           refine box_step ?hg (N := 3) ?hd (cs := #[.int .i64 0, .slice none 0 0, .slice none 0 0]) (t := 29) ?hr ?_; (case hd => rfl); (case hg => rfl); (case hr => first | (go_simp; done) | (go_simp; rfl))
           intro gb115 hg w11 hbox hb
           have n0_ := Aside0.mk (Kd.R_below (zR HO108) hb)
           have n1_ := kB BK101 hb
           have n2_ := kB BK102 hb
           have n3_ := bS HB hb
           have n4_ := Aside0.mk (hbox)
           have n5_ := gS HB hg
           have n6_ := gS HB hg
           have n7_ := Aside0.mk ((by rw [hg]; exact Nat.ne_of_lt (blk_lt (g := gb101) (o := .cells #[.int .i64 a0_0, .slice A0_1 l0_1.length c0_1, .slice A0_2 l0_2.length c0_2] 29 (0, 0)) (zK BK101)) : gb101 ≠ gb115))
           have n8_ := Aside0.mk ((by rw [hg]; exact Nat.ne_of_gt (blk_lt (g := gb101) (o := .cells #[.int .i64 a0_0, .slice A0_1 l0_1.length c0_1, .slice A0_2 l0_2.length c0_2] 29 (0, 0)) (zK BK101)) : gb115 ≠ gb101))
           have n9_ := Aside0.mk ((by rw [hg]; exact Nat.ne_of_lt (blk_lt (g := gb102) (o := .cells #[.int .i64 0, .slice none 0 0, .slice none 0 0] 29 (0, 0)) (zK BK102)) : gb102 ≠ gb115))
           have n10_ := Aside0.mk ((by rw [hg]; exact Nat.ne_of_gt (blk_lt (g := gb102) (o := .cells #[.int .i64 0, .slice none 0 0, .slice none 0 0] 29 (0, 0)) (zK BK102)) : gb115 ≠ gb102))
           clear HO108
           clear BK101
           clear BK102
           clear HB
           have HO108 := n0_
           have BK101 := n1_
           have BK102 := n2_
           have HB := n3_
           have BK115 := n4_
           have GW115 := n5_
           have GE115 := n6_
           have NB101_115 := n7_
           have NB115_101 := n8_
           have NB102_115 := n9_
           have NB115_102 := n10_
           clear n0_ n1_ n2_ n3_ n4_ n5_ n6_ n7_ n8_ n9_ n10_
           clear hb hbox hg
           refine hK.out _ _ ⟨bc0 BK101, bc1 BK101, bc2 BK101⟩ (fun hHeld => ?_)
           clear hK K
           refine norm_ (a' := ?_) ?_ ?_
           rotate_left
           ·show Act.put _ (some 3) _ = _
            simp only [Act.put, List.setIfInBounds_toArray, List.set_cons_zero, List.set_cons_succ, i64_w, i32_w]
            rfl
           exact norm_ (by first | (simp only [putAll, Act.put, List.setIfInBounds_toArray, List.set_cons_zero, List.set_cons_succ]; done) | (simp only [putAll, Act.put, List.setIfInBounds_toArray, List.set_cons_zero, List.set_cons_succ]; rfl)) (hJ2_5_11 (v104, v107, gb115) _ ⟨hHeld, (zR HO108), (zK BK101), (zK BK102), (zK BK115), GW115.out, GE115.out, NB101_115.out, NB115_101.out, NB102_115.out, NB115_102.out, (zB HB)⟩)
        ·skip
         rintro ⟨v104, v110, gb115⟩ w12 ⟨hS_, h0_, h1_, h2_, h3_, h4_, h5_, h6_, h7_, h8_, h9_, h10_, h11_⟩
         have n0_ : Aside0 (Kd.R Kd.bool 4 w12 w.heap.size (fun _ => True) v104 y103) := ⟨h0_⟩
         have n1_ : Aside0 (Kd.R k54 54 w12 w.heap.size (fun _ => True) v110 y109) := ⟨h1_⟩
         have n2_ : Aside0 (w12.heap[gb101]? = some (.cells #[.int .i64 a0_0, .slice A0_1 l0_1.length c0_1, .slice A0_2 l0_2.length c0_2] 29 (0, 0))) := ⟨h2_⟩
         have n3_ : Aside0 (w12.heap[gb102]? = some (.cells #[.int .i64 0, .slice none 0 0, .slice none 0 0] 29 (0, 0))) := ⟨h3_⟩
         have n4_ : Aside0 (w12.heap[gb115]? = some (.cells #[.int .i64 0, .slice none 0 0, .slice none 0 0] 29 (0, 0))) := ⟨h4_⟩
         have n5_ : Aside0 (w.heap.size ≤ gb115) := ⟨h5_⟩
         have n6_ : Aside0 (w.heap.size ≤ gb115) := ⟨h6_⟩
         have n7_ : Aside0 (gb101 ≠ gb115) := ⟨h7_⟩
         have n8_ : Aside0 (gb115 ≠ gb101) := ⟨h8_⟩
         have n9_ : Aside0 (gb102 ≠ gb115) := ⟨h9_⟩
         have n10_ : Aside0 (gb115 ≠ gb102) := ⟨h10_⟩
         have n11_ : Aside0 (Below w.heap.size w w12) := ⟨h11_⟩
         clear BK101
         clear BK102
         clear HB
         clear h0_ h1_ h2_ h3_ h4_ h5_ h6_ h7_ h8_ h9_ h10_ h11_
         have HO105 := n0_
         have HO111 := n1_
         have BK101 := n2_
         have BK102 := n3_
         have BK115 := n4_
         have GW115 := n5_
         have GE115 := n6_
         have NB101_115 := n7_
         have NB115_101 := n8_
         have NB102_115 := n9_
         have NB115_102 := n10_
         have HB := n11_
         clear n0_ n1_ n2_ n3_ n4_ n5_ n6_ n7_ n8_ n9_ n10_ n11_
         have hHeld : w12.cell? ⟨gb101, 0, none⟩ = some (.int .i64 a0_0) ∧ w12.cell? ⟨gb101, 1, none⟩ = some (.slice A0_1 l0_1.length c0_1) ∧ w12.cell? ⟨gb101, 2, none⟩ = some (.slice A0_2 l0_2.length c0_2) := hS_
         refine norm_ (a' := ?_) ?_ ?_
         rotate_left
         ·simp only [putAll, Act.put, List.setIfInBounds_toArray, List.set_cons_zero, List.set_cons_succ]
          rfl
         refine one_ (i := 5) (N := some 10) (bm 13 2559) rfl rfl (one_of HT_.out (by kernel_rfl)) (by decide) (fun K hK => ?_)
         refine Kd.R_append_rows_step Kd.bool (w0 := w) w.heap.size (by rfl) (.tmp 7) (.tmp 9) 22 4 (.bool false) 1 rfl Try.underlying22 info4 rfl (by decide) (by omega) v104 y103 l0_1 _ _ _ (fun _ => True) (fun _ => False) rfl rfl ?aO ?aR (fun _ _ h => h) (fun _ h => h.elim) ?aF ?aB ?aS ?aL ?_
         (case aR => repeat (first | exact (Kd.C_below HR0_1.out HB.out) | (with_reducible refine Kd.C_alloc ?_ _) | (with_reducible refine Kd.C_drewN ?_ _) | (with_reducible refine Kd.C_drew ?_)))
         (case aB => exact (zB HB))
         (case aF => exact (fun _ _ => trivial))
         (case aO => exact (zR HO105))
         (case aS => exact (below_size (zB HB)))
         (case aL => have := LMc2.out; omega)
         intro v107 w13 ho hb hg hat
         rw [← Ny106.out] at ho
         have n0_ := Aside0.mk (blk_grown (g := gb101) (o := .cells #[.int .i64 a0_0, .slice A0_1 l0_1.length c0_1, .slice A0_2 l0_2.length c0_2] 29 (0, 0)) (zK BK101) hg (Kd.R_ne HO105.out BK101.out (by decide)))
         have n1_ := Aside0.mk (blk_grown (g := gb102) (o := .cells #[.int .i64 0, .slice none 0 0, .slice none 0 0] 29 (0, 0)) (zK BK102) hg (Kd.R_ne HO105.out BK102.out (by decide)))
         have n2_ := Aside0.mk (Kd.R_over' (zR HO111) (Kd.R_typed (zR HO105)) (by decide) hg)
         have n3_ := Aside0.mk (blk_grown (g := gb115) (o := .cells #[.int .i64 0, .slice none 0 0, .slice none 0 0] 29 (0, 0)) (zK BK115) hg (Kd.R_ne HO105.out BK115.out (by decide)))
         have n4_ := Aside0.mk (hb)
         have n5_ := Aside0.mk (ho)
         clear BK101
         clear BK102
         clear HO111
         clear BK115
         clear HB
         clear HO105
         have BK101 := n0_
         have BK102 := n1_
         have HO111 := n2_
         have BK115 := n3_
         have HB := n4_
         have HO108 := n5_
         clear n0_ n1_ n2_ n3_ n4_ n5_
         clear ho hb hg hat
         refine hK.out _ _ ⟨bc0 BK101, bc1 BK101, bc2 BK101⟩ (fun hHeld => ?_)
         clear hK K
         refine norm_ (a' := ?_) ?_ ?_
         rotate_left
         ·show Act.put _ (some 10) _ = _
          simp only [Act.put, List.setIfInBounds_toArray, List.set_cons_zero, List.set_cons_succ, i64_w, i32_w]
          rfl
         exact norm_ (by first | (simp only [putAll, Act.put, List.setIfInBounds_toArray, List.set_cons_zero, List.set_cons_succ]; done) | (simp only [putAll, Act.put, List.setIfInBounds_toArray, List.set_cons_zero, List.set_cons_succ]; rfl)) (hJ2_5_6_11 (v104, v107, v110, gb115) _ ⟨hHeld, (zR HO108), (zR HO111), (zK BK101), (zK BK102), (zK BK115), GW115.out, GE115.out, NB101_115.out, NB115_101.out, NB102_115.out, NB115_102.out, (zB HB)⟩)
       ·skip
        rintro ⟨v104, v107, gb115⟩ w11 ⟨hS_, h0_, h1_, h2_, h3_, h4_, h5_, h6_, h7_, h8_, h9_, h10_⟩
        have n0_ : Aside0 (Kd.R Kd.bool 4 w11 w.heap.size (fun _ => True) v107 y106) := ⟨h0_⟩
        have n1_ : Aside0 (w11.heap[gb101]? = some (.cells #[.int .i64 a0_0, .slice A0_1 l0_1.length c0_1, .slice A0_2 l0_2.length c0_2] 29 (0, 0))) := ⟨h1_⟩
        have n2_ : Aside0 (w11.heap[gb102]? = some (.cells #[.int .i64 0, .slice none 0 0, .slice none 0 0] 29 (0, 0))) := ⟨h2_⟩
        have n3_ : Aside0 (w11.heap[gb115]? = some (.cells #[.int .i64 0, .slice none 0 0, .slice none 0 0] 29 (0, 0))) := ⟨h3_⟩
        have n4_ : Aside0 (w.heap.size ≤ gb115) := ⟨h4_⟩
        have n5_ : Aside0 (w.heap.size ≤ gb115) := ⟨h5_⟩
        have n6_ : Aside0 (gb101 ≠ gb115) := ⟨h6_⟩
        have n7_ : Aside0 (gb115 ≠ gb101) := ⟨h7_⟩
        have n8_ : Aside0 (gb102 ≠ gb115) := ⟨h8_⟩
        have n9_ : Aside0 (gb115 ≠ gb102) := ⟨h9_⟩
        have n10_ : Aside0 (Below w.heap.size w w11) := ⟨h10_⟩
        clear BK101
        clear BK102
        clear HB
        clear h0_ h1_ h2_ h3_ h4_ h5_ h6_ h7_ h8_ h9_ h10_
        have HO108 := n0_
        have BK101 := n1_
        have BK102 := n2_
        have BK115 := n3_
        have GW115 := n4_
        have GE115 := n5_
        have NB101_115 := n6_
        have NB115_101 := n7_
        have NB102_115 := n8_
        have NB115_102 := n9_
        have HB := n10_
        clear n0_ n1_ n2_ n3_ n4_ n5_ n6_ n7_ n8_ n9_ n10_
        have hHeld : w11.cell? ⟨gb101, 0, none⟩ = some (.int .i64 a0_0) ∧ w11.cell? ⟨gb101, 1, none⟩ = some (.slice A0_1 l0_1.length c0_1) ∧ w11.cell? ⟨gb101, 2, none⟩ = some (.slice A0_2 l0_2.length c0_2) := hS_
        refine norm_ (a' := ?_) ?_ ?_
        rotate_left
        ·simp only [putAll, Act.put, List.setIfInBounds_toArray, List.set_cons_zero, List.set_cons_succ]
         rfl
        refine one_ (i := 6) (N := some 11) (bm 13 2559) rfl rfl (one_of HT_.out (by kernel_rfl)) (by decide) (fun K hK => ?_)
        refine Kd.R_lit_step k54 _ 54 ?hg (N := 11) ?hd (xs := ([] : List (S54))) (inner := []) (ok := fun _ => True) (okp := fun _ => True) ?hr ?hp (fun _ hk => hk) trivial (Below.refl _ _) (Nat.le_refl _) (by simp) ?_; (case hd => rfl); (case hg => rfl); (case hr => first | (go_simp; done) | (go_simp; rfl)); (case hp => exact (Reps.none _ _))
        intro v110 w12 ho13 hb hg_ hnew_
        clear hg_ hnew_
        (first | rw [← Ny109.out] at ho13 | (simp only [Int.reduceToNat] at ho13; rw [← Ny109.out] at ho13))
        have n0_ := Aside0.mk (Kd.R_below (zR HO108) hb)
        have n1_ := Aside0.mk (Kd.R_lower ho13 (below_size (zB HB)))
        have n2_ := kB BK101 hb
        have n3_ := kB BK102 hb
        have n4_ := kB BK115 hb
        have n5_ := bS HB hb
        clear HO108
        clear BK101
        clear BK102
        clear BK115
        clear HB
        have HO108 := n0_
        have HO111 := n1_
        have BK101 := n2_
        have BK102 := n3_
        have BK115 := n4_
        have HB := n5_
        clear n0_ n1_ n2_ n3_ n4_ n5_
        clear hb ho13
        refine hK.out _ _ ⟨bc0 BK101, bc1 BK101, bc2 BK101⟩ (fun hHeld => ?_)
        clear hK K
        refine norm_ (a' := ?_) ?_ ?_
        rotate_left
        ·show Act.put _ (some 11) _ = _
         simp only [Act.put, List.setIfInBounds_toArray, List.set_cons_zero, List.set_cons_succ, i64_w, i32_w]
         rfl
        exact norm_ (by first | (simp only [putAll, Act.put, List.setIfInBounds_toArray, List.set_cons_zero, List.set_cons_succ]; done) | (simp only [putAll, Act.put, List.setIfInBounds_toArray, List.set_cons_zero, List.set_cons_succ]; rfl)) (hJ2_5_6_11 (v104, v107, v110, gb115) _ ⟨hHeld, (zR HO108), (zR HO111), (zK BK101), (zK BK102), (zK BK115), GW115.out, GE115.out, NB101_115.out, NB115_101.out, NB102_115.out, NB115_102.out, (zB HB)⟩)
      ·skip
       rintro ⟨v104, v107, v110⟩ w12 ⟨hS_, h0_, h1_, h2_, h3_, h4_⟩
       have n0_ : Aside0 (Kd.R Kd.bool 4 w12 w.heap.size (fun _ => True) v107 y106) := ⟨h0_⟩
       have n1_ : Aside0 (Kd.R k54 54 w12 w.heap.size (fun _ => True) v110 y109) := ⟨h1_⟩
       have n2_ : Aside0 (w12.heap[gb101]? = some (.cells #[.int .i64 a0_0, .slice A0_1 l0_1.length c0_1, .slice A0_2 l0_2.length c0_2] 29 (0, 0))) := ⟨h2_⟩
       have n3_ : Aside0 (w12.heap[gb102]? = some (.cells #[.int .i64 0, .slice none 0 0, .slice none 0 0] 29 (0, 0))) := ⟨h3_⟩
       have n4_ : Aside0 (Below w.heap.size w w12) := ⟨h4_⟩
       clear BK101
       clear BK102
       clear HB
       clear h0_ h1_ h2_ h3_ h4_
       have HO108 := n0_
       have HO111 := n1_
       have BK101 := n2_
       have BK102 := n3_
       have HB := n4_
       clear n0_ n1_ n2_ n3_ n4_
       have hHeld : w12.cell? ⟨gb101, 0, none⟩ = some (.int .i64 a0_0) ∧ w12.cell? ⟨gb101, 1, none⟩ = some (.slice A0_1 l0_1.length c0_1) ∧ w12.cell? ⟨gb101, 2, none⟩ = some (.slice A0_2 l0_2.length c0_2) := hS_
       refine norm_ (a' := ?_) ?_ ?_
       rotate_left
       ·simp only [putAll, Act.put, List.setIfInBounds_toArray, List.set_cons_zero, List.set_cons_succ]
        rfl
       refine two_ (i := 9) (j := 11) (Ni := some 14) (Nj := some 3) (bm 13 1023) (bm 13 2559) rfl rfl rfl rfl (two_of HT_.out (by kernel_rfl)) (by decide) (by decide) (fun K hK => ?_) (fun K hK => ?_)
       ·skip
        refine Kd.R_append_rows_step k54 (w0 := w) w.heap.size (by rfl) (.tmp 11) (.tmp 13) 27 54 (.agg #[(.int .i64 0), (.bool false), (.int .i64 0), (.int .i64 0)]) 32 rfl Try.underlying27 info54 rfl (by decide) (by omega) v110 y109 l0_2 _ _ _ (fun _ => True) (fun _ => False) rfl rfl ?aO ?aR (fun _ _ h => h) (fun _ h => h.elim) ?aF ?aB ?aS ?aL ?_
        (case aR => repeat (first | exact (Kd.C_below HR0_2.out HB.out) | (with_reducible refine Kd.C_alloc ?_ _) | (with_reducible refine Kd.C_drewN ?_ _) | (with_reducible refine Kd.C_drew ?_)))
        (case aB => exact (zB HB))
        (case aF => exact (fun _ _ => trivial))
        (case aO => exact (zR HO111))
        (case aS => exact (below_size (zB HB)))
        (case aL => have := LMc3.out; omega)
        intro v113 w13 ho hb hg hat
        rw [← Ny112.out] at ho
        have n0_ := Aside0.mk (blk_grown (g := gb101) (o := .cells #[.int .i64 a0_0, .slice A0_1 l0_1.length c0_1, .slice A0_2 l0_2.length c0_2] 29 (0, 0)) (zK BK101) hg (Kd.R_ne HO111.out BK101.out (by decide)))
        have n1_ := Aside0.mk (blk_grown (g := gb102) (o := .cells #[.int .i64 0, .slice none 0 0, .slice none 0 0] 29 (0, 0)) (zK BK102) hg (Kd.R_ne HO111.out BK102.out (by decide)))
        have n2_ := Aside0.mk (Kd.R_over' (zR HO108) (Kd.R_typed (zR HO111)) (by decide) hg)
        have n3_ := Aside0.mk (hb)
        have n4_ := Aside0.mk (ho)
        clear BK101
        clear BK102
        clear HO108
        clear HB
        clear HO111
        have BK101 := n0_
        have BK102 := n1_
        have HO108 := n2_
        have HB := n3_
        have HO114 := n4_
        clear n0_ n1_ n2_ n3_ n4_
        clear ho hb hg hat
        obtain ⟨Ao14, co14, eo14⟩ := Kd.R_slice HO114.out
        (first | subst eo14 | (injection eo14 with f1_ f2_ f3_; have f4_ := f1_.symm; have f5_ := f3_.symm; clear f1_ f2_ f3_; subst f4_; subst f5_))
        obtain ⟨Ao15, co15, eo15⟩ := Kd.R_slice HO108.out
        (first | subst eo15 | (injection eo15 with f1_ f2_ f3_; have f4_ := f1_.symm; have f5_ := f3_.symm; clear f1_ f2_ f3_; subst f4_; subst f5_))
        refine hK.out _ _ ⟨bc0 BK101, bc1 BK101, bc2 BK101⟩ (fun hHeld => ?_)
        clear hK K
        refine norm_ (a' := ?_) ?_ ?_
        rotate_left
        ·show Act.put _ (some 14) _ = _
         simp only [Act.put, List.setIfInBounds_toArray, List.set_cons_zero, List.set_cons_succ, i64_w, i32_w]
         rfl
        refine pure_ (i := 10) (N := some 15) (v := ?_) (a' := ?_) (bm 13 2047) rfl rfl (any_of HT_.out (by kernel_rfl)) (fun _ _ _ h => h) (Or.inl ⟨by rfl, ?_⟩) ?_ ?_
        rotate_left
        ·intro w'
         go_simp
         with_reducible rfl
        rotate_left
        ·simp only [Act.put, List.setIfInBounds_toArray, List.set_cons_zero, List.set_cons_succ, i64_w, i32_w]
         rfl
        exact norm_ (by first | (simp only [putAll, Act.put, List.setIfInBounds_toArray, List.set_cons_zero, List.set_cons_succ]; done) | (simp only [putAll, Act.put, List.setIfInBounds_toArray, List.set_cons_zero, List.set_cons_succ]; rfl)) (hJ2_5_6_9 (v104, .slice Ao15 y106.length co15, v110, .slice Ao14 y112.length co14) _ ⟨hHeld, (zR HO108), (zR HO114), (zK BK101), (zK BK102), (zB HB)⟩)
       ·skip
        refine box_step ?hg (N := 3) ?hd (cs := #[.int .i64 0, .slice none 0 0, .slice none 0 0]) (t := 29) ?hr ?_; (case hd => rfl); (case hg => rfl); (case hr => first | (go_simp; done) | (go_simp; rfl))
        intro gb115 hg w13 hbox hb
        have n0_ := Aside0.mk (Kd.R_below (zR HO108) hb)
        have n1_ := Aside0.mk (Kd.R_below (zR HO111) hb)
        have n2_ := kB BK101 hb
        have n3_ := kB BK102 hb
        have n4_ := bS HB hb
        have n5_ := Aside0.mk (hbox)
        have n6_ := gS HB hg
        have n7_ := gS HB hg
        have n8_ := Aside0.mk ((by rw [hg]; exact Nat.ne_of_lt (blk_lt (g := gb101) (o := .cells #[.int .i64 a0_0, .slice A0_1 l0_1.length c0_1, .slice A0_2 l0_2.length c0_2] 29 (0, 0)) (zK BK101)) : gb101 ≠ gb115))
        have n9_ := Aside0.mk ((by rw [hg]; exact Nat.ne_of_gt (blk_lt (g := gb101) (o := .cells #[.int .i64 a0_0, .slice A0_1 l0_1.length c0_1, .slice A0_2 l0_2.length c0_2] 29 (0, 0)) (zK BK101)) : gb115 ≠ gb101))
        have n10_ := Aside0.mk ((by rw [hg]; exact Nat.ne_of_lt (blk_lt (g := gb102) (o := .cells #[.int .i64 0, .slice none 0 0, .slice none 0 0] 29 (0, 0)) (zK BK102)) : gb102 ≠ gb115))
        have n11_ := Aside0.mk ((by rw [hg]; exact Nat.ne_of_gt (blk_lt (g := gb102) (o := .cells #[.int .i64 0, .slice none 0 0, .slice none 0 0] 29 (0, 0)) (zK BK102)) : gb115 ≠ gb102))
        clear HO108
        clear HO111
        clear BK101
        clear BK102
        clear HB
        have HO108 := n0_
        have HO111 := n1_
        have BK101 := n2_
        have BK102 := n3_
        have HB := n4_
        have BK115 := n5_
        have GW115 := n6_
        have GE115 := n7_
        have NB101_115 := n8_
        have NB115_101 := n9_
        have NB102_115 := n10_
        have NB115_102 := n11_
        clear n0_ n1_ n2_ n3_ n4_ n5_ n6_ n7_ n8_ n9_ n10_ n11_
        clear hb hbox hg
        refine hK.out _ _ ⟨bc0 BK101, bc1 BK101, bc2 BK101⟩ (fun hHeld => ?_)
        clear hK K
        refine norm_ (a' := ?_) ?_ ?_
        rotate_left
        ·show Act.put _ (some 3) _ = _
         simp only [Act.put, List.setIfInBounds_toArray, List.set_cons_zero, List.set_cons_succ, i64_w, i32_w]
         rfl
        exact norm_ (by first | (simp only [putAll, Act.put, List.setIfInBounds_toArray, List.set_cons_zero, List.set_cons_succ]; done) | (simp only [putAll, Act.put, List.setIfInBounds_toArray, List.set_cons_zero, List.set_cons_succ]; rfl)) (hJ2_5_6_11 (v104, v107, v110, gb115) _ ⟨hHeld, (zR HO108), (zR HO111), (zK BK101), (zK BK102), (zK BK115), GW115.out, GE115.out, NB101_115.out, NB115_101.out, NB102_115.out, NB115_102.out, (zB HB)⟩)
     ·skip
      rintro ⟨v104, v107, v110, gb115⟩ w13 ⟨hS_, h0_, h1_, h2_, h3_, h4_, h5_, h6_, h7_, h8_, h9_, h10_, h11_⟩
      have n0_ : Aside0 (Kd.R Kd.bool 4 w13 w.heap.size (fun _ => True) v107 y106) := ⟨h0_⟩
      have n1_ : Aside0 (Kd.R k54 54 w13 w.heap.size (fun _ => True) v110 y109) := ⟨h1_⟩
      have n2_ : Aside0 (w13.heap[gb101]? = some (.cells #[.int .i64 a0_0, .slice A0_1 l0_1.length c0_1, .slice A0_2 l0_2.length c0_2] 29 (0, 0))) := ⟨h2_⟩
      have n3_ : Aside0 (w13.heap[gb102]? = some (.cells #[.int .i64 0, .slice none 0 0, .slice none 0 0] 29 (0, 0))) := ⟨h3_⟩
      have n4_ : Aside0 (w13.heap[gb115]? = some (.cells #[.int .i64 0, .slice none 0 0, .slice none 0 0] 29 (0, 0))) := ⟨h4_⟩
      have n5_ : Aside0 (w.heap.size ≤ gb115) := ⟨h5_⟩
      have n6_ : Aside0 (w.heap.size ≤ gb115) := ⟨h6_⟩
      have n7_ : Aside0 (gb101 ≠ gb115) := ⟨h7_⟩
      have n8_ : Aside0 (gb115 ≠ gb101) := ⟨h8_⟩
      have n9_ : Aside0 (gb102 ≠ gb115) := ⟨h9_⟩
      have n10_ : Aside0 (gb115 ≠ gb102) := ⟨h10_⟩
      have n11_ : Aside0 (Below w.heap.size w w13) := ⟨h11_⟩
      clear BK101
      clear BK102
      clear HB
      clear h0_ h1_ h2_ h3_ h4_ h5_ h6_ h7_ h8_ h9_ h10_ h11_
      have HO108 := n0_
      have HO111 := n1_
      have BK101 := n2_
      have BK102 := n3_
      have BK115 := n4_
      have GW115 := n5_
      have GE115 := n6_
      have NB101_115 := n7_
      have NB115_101 := n8_
      have NB102_115 := n9_
      have NB115_102 := n10_
      have HB := n11_
      clear n0_ n1_ n2_ n3_ n4_ n5_ n6_ n7_ n8_ n9_ n10_ n11_
      have hHeld : w13.cell? ⟨gb101, 0, none⟩ = some (.int .i64 a0_0) ∧ w13.cell? ⟨gb101, 1, none⟩ = some (.slice A0_1 l0_1.length c0_1) ∧ w13.cell? ⟨gb101, 2, none⟩ = some (.slice A0_2 l0_2.length c0_2) := hS_
      refine norm_ (a' := ?_) ?_ ?_
      rotate_left
      ·simp only [putAll, Act.put, List.setIfInBounds_toArray, List.set_cons_zero, List.set_cons_succ]
       rfl
      refine one_ (i := 9) (N := some 14) (bm 13 3071) rfl rfl (one_of HT_.out (by kernel_rfl)) (by decide) (fun K hK => ?_)
      refine Kd.R_append_rows_step k54 (w0 := w) w.heap.size (by rfl) (.tmp 11) (.tmp 13) 27 54 (.agg #[(.int .i64 0), (.bool false), (.int .i64 0), (.int .i64 0)]) 32 rfl Try.underlying27 info54 rfl (by decide) (by omega) v110 y109 l0_2 _ _ _ (fun _ => True) (fun _ => False) rfl rfl ?aO ?aR (fun _ _ h => h) (fun _ h => h.elim) ?aF ?aB ?aS ?aL ?_
      (case aR => repeat (first | exact (Kd.C_below HR0_2.out HB.out) | (with_reducible refine Kd.C_alloc ?_ _) | (with_reducible refine Kd.C_drewN ?_ _) | (with_reducible refine Kd.C_drew ?_)))
      (case aB => exact (zB HB))
      (case aF => exact (fun _ _ => trivial))
      (case aO => exact (zR HO111))
      (case aS => exact (below_size (zB HB)))
      (case aL => have := LMc3.out; omega)
      intro v113 w14 ho hb hg hat
      rw [← Ny112.out] at ho
      have n0_ := Aside0.mk (blk_grown (g := gb101) (o := .cells #[.int .i64 a0_0, .slice A0_1 l0_1.length c0_1, .slice A0_2 l0_2.length c0_2] 29 (0, 0)) (zK BK101) hg (Kd.R_ne HO111.out BK101.out (by decide)))
      have n1_ := Aside0.mk (blk_grown (g := gb102) (o := .cells #[.int .i64 0, .slice none 0 0, .slice none 0 0] 29 (0, 0)) (zK BK102) hg (Kd.R_ne HO111.out BK102.out (by decide)))
      have n2_ := Aside0.mk (Kd.R_over' (zR HO108) (Kd.R_typed (zR HO111)) (by decide) hg)
      have n3_ := Aside0.mk (blk_grown (g := gb115) (o := .cells #[.int .i64 0, .slice none 0 0, .slice none 0 0] 29 (0, 0)) (zK BK115) hg (Kd.R_ne HO111.out BK115.out (by decide)))
      have n4_ := Aside0.mk (hb)
      have n5_ := Aside0.mk (ho)
      clear BK101
      clear BK102
      clear HO108
      clear BK115
      clear HB
      clear HO111
      have BK101 := n0_
      have BK102 := n1_
      have HO108 := n2_
      have BK115 := n3_
      have HB := n4_
      have HO114 := n5_
      clear n0_ n1_ n2_ n3_ n4_ n5_
      clear ho hb hg hat
      obtain ⟨Ao15, co15, eo15⟩ := Kd.R_slice HO114.out
      (first | subst eo15 | (injection eo15 with f1_ f2_ f3_; have f4_ := f1_.symm; have f5_ := f3_.symm; clear f1_ f2_ f3_; subst f4_; subst f5_))
      obtain ⟨Ao16, co16, eo16⟩ := Kd.R_slice HO108.out
      (first | subst eo16 | (injection eo16 with f1_ f2_ f3_; have f4_ := f1_.symm; have f5_ := f3_.symm; clear f1_ f2_ f3_; subst f4_; subst f5_))
      refine hK.out _ _ ⟨bc0 BK101, bc1 BK101, bc2 BK101⟩ (fun hHeld => ?_)
      clear hK K
      refine norm_ (a' := ?_) ?_ ?_
      rotate_left
      ·show Act.put _ (some 14) _ = _
       simp only [Act.put, List.setIfInBounds_toArray, List.set_cons_zero, List.set_cons_succ, i64_w, i32_w]
       rfl
      refine pure_ (i := 10) (N := some 15) (v := ?_) (a' := ?_) (bm 13 4095) rfl rfl (any_of HT_.out (by kernel_rfl)) (fun _ _ _ h => h) (Or.inl ⟨by rfl, ?_⟩) ?_ ?_
      rotate_left
      ·intro w'
       go_simp
       with_reducible rfl
      rotate_left
      ·simp only [Act.put, List.setIfInBounds_toArray, List.set_cons_zero, List.set_cons_succ, i64_w, i32_w]
       rfl
      exact norm_ (by first | (simp only [putAll, Act.put, List.setIfInBounds_toArray, List.set_cons_zero, List.set_cons_succ]; done) | (simp only [putAll, Act.put, List.setIfInBounds_toArray, List.set_cons_zero, List.set_cons_succ]; rfl)) (hJ2_5_6_9_11 (v104, .slice Ao16 y106.length co16, v110, .slice Ao15 y112.length co15, gb115) _ ⟨hHeld, (zR HO108), (zR HO114), (zK BK101), (zK BK102), (zK BK115), GW115.out, GE115.out, NB101_115.out, NB115_101.out, NB102_115.out, NB115_102.out, (zB HB)⟩)
    ·skip
     rintro ⟨v104, v107, v110, v113⟩ w15 ⟨hS_, h0_, h1_, h2_, h3_, h4_⟩
     have n0_ : Aside0 (Kd.R Kd.bool 4 w15 w.heap.size (fun _ => True) v107 y106) := ⟨h0_⟩
     have n1_ : Aside0 (Kd.R k54 54 w15 w.heap.size (fun _ => True) v113 y112) := ⟨h1_⟩
     have n2_ : Aside0 (w15.heap[gb101]? = some (.cells #[.int .i64 a0_0, .slice A0_1 l0_1.length c0_1, .slice A0_2 l0_2.length c0_2] 29 (0, 0))) := ⟨h2_⟩
     have n3_ : Aside0 (w15.heap[gb102]? = some (.cells #[.int .i64 0, .slice none 0 0, .slice none 0 0] 29 (0, 0))) := ⟨h3_⟩
     have n4_ : Aside0 (Below w.heap.size w w15) := ⟨h4_⟩
     clear BK101
     clear BK102
     clear HB
     clear h0_ h1_ h2_ h3_ h4_
     have HO108 := n0_
     have HO114 := n1_
     have BK101 := n2_
     have BK102 := n3_
     have HB := n4_
     clear n0_ n1_ n2_ n3_ n4_
     have hHeld : w15.cell? ⟨gb101, 0, none⟩ = some (.int .i64 a0_0) ∧ w15.cell? ⟨gb101, 1, none⟩ = some (.slice A0_1 l0_1.length c0_1) ∧ w15.cell? ⟨gb101, 2, none⟩ = some (.slice A0_2 l0_2.length c0_2) := hS_
     obtain ⟨Ao16, co16, eo16⟩ := Kd.R_slice HO114.out
     (first | subst eo16 | (injection eo16 with f1_ f2_ f3_; have f4_ := f1_.symm; have f5_ := f3_.symm; clear f1_ f2_ f3_; subst f4_; subst f5_))
     obtain ⟨Ao17, co17, eo17⟩ := Kd.R_slice HO108.out
     (first | subst eo17 | (injection eo17 with f1_ f2_ f3_; have f4_ := f1_.symm; have f5_ := f3_.symm; clear f1_ f2_ f3_; subst f4_; subst f5_))
     refine norm_ (a' := ?_) ?_ ?_
     rotate_left
     ·simp only [putAll, Act.put, List.setIfInBounds_toArray, List.set_cons_zero, List.set_cons_succ]
      rfl
     refine one_ (i := 11) (N := some 3) (bm 13 4095) rfl rfl (one_of HT_.out (by kernel_rfl)) (by decide) (fun K hK => ?_)
     refine box_step ?hg (N := 3) ?hd (cs := #[.int .i64 0, .slice none 0 0, .slice none 0 0]) (t := 29) ?hr ?_; (case hd => rfl); (case hg => rfl); (case hr => first | (go_simp; done) | (go_simp; rfl))
     intro gb115 hg w18 hbox hb
     have n0_ := Aside0.mk (Kd.R_below (zR HO108) hb)
     have n1_ := Aside0.mk (Kd.R_below (zR HO114) hb)
     have n2_ := kB BK101 hb
     have n3_ := kB BK102 hb
     have n4_ := bS HB hb
     have n5_ := Aside0.mk (hbox)
     have n6_ := gS HB hg
     have n7_ := gS HB hg
     have n8_ := Aside0.mk ((by rw [hg]; exact Nat.ne_of_lt (blk_lt (g := gb101) (o := .cells #[.int .i64 a0_0, .slice A0_1 l0_1.length c0_1, .slice A0_2 l0_2.length c0_2] 29 (0, 0)) (zK BK101)) : gb101 ≠ gb115))
     have n9_ := Aside0.mk ((by rw [hg]; exact Nat.ne_of_gt (blk_lt (g := gb101) (o := .cells #[.int .i64 a0_0, .slice A0_1 l0_1.length c0_1, .slice A0_2 l0_2.length c0_2] 29 (0, 0)) (zK BK101)) : gb115 ≠ gb101))
     have n10_ := Aside0.mk ((by rw [hg]; exact Nat.ne_of_lt (blk_lt (g := gb102) (o := .cells #[.int .i64 0, .slice none 0 0, .slice none 0 0] 29 (0, 0)) (zK BK102)) : gb102 ≠ gb115))
     have n11_ := Aside0.mk ((by rw [hg]; exact Nat.ne_of_gt (blk_lt (g := gb102) (o := .cells #[.int .i64 0, .slice none 0 0, .slice none 0 0] 29 (0, 0)) (zK BK102)) : gb115 ≠ gb102))
     clear HO108
     clear HO114
     clear BK101
     clear BK102
     clear HB
     have HO108 := n0_
     have HO114 := n1_
     have BK101 := n2_
     have BK102 := n3_
     have HB := n4_
     have BK115 := n5_
     have GW115 := n6_
     have GE115 := n7_
     have NB101_115 := n8_
     have NB115_101 := n9_
     have NB102_115 := n10_
     have NB115_102 := n11_
     clear n0_ n1_ n2_ n3_ n4_ n5_ n6_ n7_ n8_ n9_ n10_ n11_
     clear hb hbox hg
     refine hK.out _ _ ⟨bc0 BK101, bc1 BK101, bc2 BK101⟩ (fun hHeld => ?_)
     clear hK K
     refine norm_ (a' := ?_) ?_ ?_
     rotate_left
     ·show Act.put _ (some 3) _ = _
      simp only [Act.put, List.setIfInBounds_toArray, List.set_cons_zero, List.set_cons_succ, i64_w, i32_w]
      rfl
     exact norm_ (by first | (simp only [putAll, Act.put, List.setIfInBounds_toArray, List.set_cons_zero, List.set_cons_succ]; done) | (simp only [putAll, Act.put, List.setIfInBounds_toArray, List.set_cons_zero, List.set_cons_succ]; rfl)) (hJ2_5_6_9_11 (v104, .slice Ao17 y106.length co17, v110, .slice Ao16 y112.length co16, gb115) _ ⟨hHeld, (zR HO108), (zR HO114), (zK BK101), (zK BK102), (zK BK115), GW115.out, GE115.out, NB101_115.out, NB115_101.out, NB102_115.out, NB115_102.out, (zB HB)⟩)
   rintro ⟨v104, v107, v110, v113, gb115⟩ w16 ⟨hS_, h0_, h1_, h2_, h3_, h4_, h5_, h6_, h7_, h8_, h9_, h10_, h11_⟩
   have n0_ : Aside0 (Kd.R Kd.bool 4 w16 w.heap.size (fun _ => True) v107 y106) := ⟨h0_⟩
   have n1_ : Aside0 (Kd.R k54 54 w16 w.heap.size (fun _ => True) v113 y112) := ⟨h1_⟩
   have n2_ : Aside0 (w16.heap[gb101]? = some (.cells #[.int .i64 a0_0, .slice A0_1 l0_1.length c0_1, .slice A0_2 l0_2.length c0_2] 29 (0, 0))) := ⟨h2_⟩
   have n3_ : Aside0 (w16.heap[gb102]? = some (.cells #[.int .i64 0, .slice none 0 0, .slice none 0 0] 29 (0, 0))) := ⟨h3_⟩
   have n4_ : Aside0 (w16.heap[gb115]? = some (.cells #[.int .i64 0, .slice none 0 0, .slice none 0 0] 29 (0, 0))) := ⟨h4_⟩
   have n5_ : Aside0 (w.heap.size ≤ gb115) := ⟨h5_⟩
   have n6_ : Aside0 (w.heap.size ≤ gb115) := ⟨h6_⟩
   have n7_ : Aside0 (gb101 ≠ gb115) := ⟨h7_⟩
   have n8_ : Aside0 (gb115 ≠ gb101) := ⟨h8_⟩
   have n9_ : Aside0 (gb102 ≠ gb115) := ⟨h9_⟩
   have n10_ : Aside0 (gb115 ≠ gb102) := ⟨h10_⟩
   have n11_ : Aside0 (Below w.heap.size w w16) := ⟨h11_⟩
   clear BK101
   clear BK102
   clear HB
   clear h0_ h1_ h2_ h3_ h4_ h5_ h6_ h7_ h8_ h9_ h10_ h11_
   have HO108 := n0_
   have HO114 := n1_
   have BK101 := n2_
   have BK102 := n3_
   have BK115 := n4_
   have GW115 := n5_
   have GE115 := n6_
   have NB101_115 := n7_
   have NB115_101 := n8_
   have NB102_115 := n9_
   have NB115_102 := n10_
   have HB := n11_
   clear n0_ n1_ n2_ n3_ n4_ n5_ n6_ n7_ n8_ n9_ n10_ n11_
   have hHeld : w16.cell? ⟨gb101, 0, none⟩ = some (.int .i64 a0_0) ∧ w16.cell? ⟨gb101, 1, none⟩ = some (.slice A0_1 l0_1.length c0_1) ∧ w16.cell? ⟨gb101, 2, none⟩ = some (.slice A0_2 l0_2.length c0_2) := hS_
   obtain ⟨Ao17, co17, eo17⟩ := Kd.R_slice HO114.out
   (first | subst eo17 | (injection eo17 with f1_ f2_ f3_; have f4_ := f1_.symm; have f5_ := f3_.symm; clear f1_ f2_ f3_; subst f4_; subst f5_))
   obtain ⟨Ao18, co18, eo18⟩ := Kd.R_slice HO108.out
   (first | subst eo18 | (injection eo18 with f1_ f2_ f3_; have f4_ := f1_.symm; have f5_ := f3_.symm; clear f1_ f2_ f3_; subst f4_; subst f5_))
   refine norm_ (a' := ?_) ?_ ?_
   rotate_left
   ·simp only [putAll, Act.put, List.setIfInBounds_toArray, List.set_cons_zero, List.set_cons_succ]
    rfl
   refine one_ (i := 12) (N := none) (bm 13 8191) rfl rfl (one_of HT_.out (by kernel_rfl)) (by decide) (fun K hK => ?_)
   have hs19 : w16.cell? ⟨gb115, 0, none⟩ = some (.int .i64 0) := bc0 BK115
   have hfs19 := bf BK115 0
   have hns19_0 := NB101_115.out
   have hns19_1 := NB102_115.out
   have hms19_0 := NB115_101.out
   have hms19_1 := NB115_102.out
   have hs20 : w16.cell? ⟨gb115, 1, none⟩ = some (.slice none 0 0) := bc1 BK115
   have hfs20 := bf BK115 1
   have hns20_0 := NB101_115.out
   have hns20_1 := NB102_115.out
   have hms20_0 := NB115_101.out
   have hms20_1 := NB115_102.out
   have hs21 : w16.cell? ⟨gb115, 2, none⟩ = some (.slice none 0 0) := bc2 BK115
   have hfs21 := bf BK115 2
   have hns21_0 := NB101_115.out
   have hns21_1 := NB102_115.out
   have hms21_0 := NB115_101.out
   have hms21_1 := NB115_102.out
   refine skip_ (w1 := ?_) (by rfl) rfl ?_ ?_
   rotate_left
   ·go_simp
    rfl
   refine hK.out _ _ ⟨((cell_far (p := ⟨gb115, _, none⟩) NB101_115.out _).trans (((cell_far (p := ⟨gb115, _, none⟩) NB101_115.out _).trans (((cell_far (p := ⟨gb115, _, none⟩) NB101_115.out _).trans (hHeld.1)))))), ((cell_far (p := ⟨gb115, _, none⟩) NB101_115.out _).trans (((cell_far (p := ⟨gb115, _, none⟩) NB101_115.out _).trans (((cell_far (p := ⟨gb115, _, none⟩) NB101_115.out _).trans (hHeld.2.1)))))), ((cell_far (p := ⟨gb115, _, none⟩) NB101_115.out _).trans (((cell_far (p := ⟨gb115, _, none⟩) NB101_115.out _).trans (((cell_far (p := ⟨gb115, _, none⟩) NB101_115.out _).trans (hHeld.2.2))))))⟩ (fun hHeld => ?_)
   clear hK K
   refine done_ (done_of HT_.out (by kernel_rfl)) ?_
   try clear hHeld
   have hnb22 := NB115_101.out
   have hnc22 := NB101_115.out
   have hnb23 := NB115_102.out
   have hnc23 := NB102_115.out
   have hcz24_0 := bc0 BK115
   have hcz24_1 := bc1 BK115
   have hcz24_2 := bc2 BK115
   have hfz24_0 := bf BK115 0
   have hfz24_1 := bf BK115 1
   have hfz24_2 := bf BK115 2
   try go_wp2
   go_loopg [19] k (fun kq v19 w' => ∃ (x19_1 : Int) (x116002_1 : List (S54)) (u116002 : Value), v19 = .int .i64 x19_1 ∧ Aside0 (impl_DualOf.l0 kq (y112.length : Int) x19_1 a0_0 y106 x116002_1 = some (r1, r2, r3)) ∧ Aside0 (kq ≤ k) ∧ Aside0 (Kd.R Kd.bool 4 w' w.heap.size (fun _ => True) (.slice Ao18 y106.length co18) y106) ∧ Aside0 (Kd.R k54 54 w' w.heap.size (fun _ => True) u116002 x116002_1) ∧ Aside0 (w'.heap[gb101]? = some (.cells #[.int .i64 a0_0, (.slice A0_1 l0_1.length c0_1), (.slice A0_2 l0_2.length c0_2)] 29 (0, 0))) ∧ Aside0 (w'.heap[gb102]? = some (.cells #[.int .i64 0, (.slice none 0 0), (.slice none 0 0)] 29 (0, 0))) ∧ Aside0 (w'.heap[gb115]? = some (.cells #[.int .i64 a0_0, (.slice Ao18 y106.length co18), u116002] 29 (0, 0))) ∧ Aside0 (Below w.heap.size w w'))
   case atStart => exact ⟨(0), (y112), (.slice Ao17 y112.length co17), zF, H', ⟨Nat.le_refl _⟩, ⟨by (with_reducible repeat (first | apply Kd.R_alloc | apply Kd.R_drewN | apply Kd.R_drew)); exact Kd.R_mono (Kd.R_far (p := ⟨gb115, 2, none⟩) (Kd.R_far (p := ⟨gb115, 1, none⟩) (Kd.R_far (p := ⟨gb115, 0, none⟩) (Kd.R_types HO108.out BK115.out (by decide)) (fun _ hk => hk.2) (.int .i64 a0_0)) (fun _ hk => hk.2) (.slice Ao18 y106.length co18)) (fun _ hk => hk.2) (.slice Ao17 y112.length co17)) (fun _ hk => trivial)⟩, ⟨by (with_reducible repeat (first | apply Kd.R_alloc | apply Kd.R_drewN | apply Kd.R_drew)); exact Kd.R_mono (Kd.R_far (p := ⟨gb115, 2, none⟩) (Kd.R_far (p := ⟨gb115, 1, none⟩) (Kd.R_far (p := ⟨gb115, 0, none⟩) (Kd.R_types HO114.out BK115.out (by decide)) (fun _ hk => hk.2) (.int .i64 a0_0)) (fun _ hk => hk.2) (.slice Ao18 y106.length co18)) (fun _ hk => hk.2) (.slice Ao17 y112.length co17)) (fun _ hk => trivial)⟩, ⟨by (with_reducible repeat (first | refine blk_drewN ?_ _ | refine blk_drew ?_ | refine blk_alloc ?_ _)); refine blk_far ?_ NB101_115.out _; (with_reducible repeat (first | refine blk_drewN ?_ _ | refine blk_drew ?_ | refine blk_alloc ?_ _)); refine blk_far ?_ NB101_115.out _; (with_reducible repeat (first | refine blk_drewN ?_ _ | refine blk_drew ?_ | refine blk_alloc ?_ _)); refine blk_far ?_ NB101_115.out _; (with_reducible repeat (first | refine blk_drewN ?_ _ | refine blk_drew ?_ | refine blk_alloc ?_ _)); exact BK101.out⟩, ⟨by (with_reducible repeat (first | refine blk_drewN ?_ _ | refine blk_drew ?_ | refine blk_alloc ?_ _)); refine blk_far ?_ NB102_115.out _; (with_reducible repeat (first | refine blk_drewN ?_ _ | refine blk_drew ?_ | refine blk_alloc ?_ _)); refine blk_far ?_ NB102_115.out _; (with_reducible repeat (first | refine blk_drewN ?_ _ | refine blk_drew ?_ | refine blk_alloc ?_ _)); refine blk_far ?_ NB102_115.out _; (with_reducible repeat (first | refine blk_drewN ?_ _ | refine blk_drew ?_ | refine blk_alloc ?_ _)); exact BK102.out⟩, ⟨by (with_reducible repeat (first | refine blk_drewN ?_ _ | refine blk_drew ?_ | refine blk_alloc ?_ _)); refine blk_put (cs := #[.int .i64 a0_0, .slice Ao18 y106.length co18, .slice none 0 0]) ?_ 2 _ rfl; (with_reducible repeat (first | refine blk_drewN ?_ _ | refine blk_drew ?_ | refine blk_alloc ?_ _)); refine blk_put (cs := #[.int .i64 a0_0, .slice none 0 0, .slice none 0 0]) ?_ 1 _ rfl; (with_reducible repeat (first | refine blk_drewN ?_ _ | refine blk_drew ?_ | refine blk_alloc ?_ _)); refine blk_put (cs := #[.int .i64 0, .slice none 0 0, .slice none 0 0]) ?_ 0 _ rfl; (with_reducible repeat (first | refine blk_drewN ?_ _ | refine blk_drew ?_ | refine blk_alloc ?_ _)); exact BK115.out⟩, ⟨zB HB⟩⟩
   case round =>
    clear H'
    try clear c2
    try clear p2
    try clear c3
    try clear c22
    try clear c23
    try clear hcz24_0
    try clear hcz24_1
    try clear hcz24_2
    try clear hfz24_0
    try clear hfz24_1
    try clear hfz24_2
    obtain ⟨x19_1, x116002_1, u116002, rfl, HA, HK1, HO_116001, HO_116002, BK101, BK102, BK115, HB⟩ := hrel
    cases gk with
    | zero => exact absurd HA.out (by simp [impl_DualOf.l0])
    | succ k1 =>
     have H := HA.out
     clear HA
     simp only [impl_DualOf.l0] at H
     by_cases c25 : x19_1 < (y112.length : Int)
     ·rw [if_pos c25] at H
      have c25b0 : decide (x19_1 < (y112.length : Int)) = true := decide_eq_true c25
      clear c25
      by_cases c26 : 0 ≤ x19_1
      ·rw [if_pos c26] at H
       have c26b0 : decide (0 ≤ x19_1) = true := decide_eq_true c26
       clear c26
       by_cases c27 : x19_1 < (x116002_1.length : Int)
       ·rw [if_pos c27] at H
        have c27b0 : decide (x19_1 < (x116002_1.length : Int)) = true := decide_eq_true c27
        clear c27
        obtain ⟨y117, hy117⟩ : ∃ y_ : List (S54), y_ = (x116002_1.set (x19_1 : Int).toNat (⟨(rd_T54 x116002_1 x19_1).f0, !((rd_T54 x116002_1 x19_1).f1), (rd_T54 x116002_1 x19_1).f2, (rd_T54 x116002_1 x19_1).f3⟩ : S54)) := ⟨_, rfl⟩
        replace H : (impl_DualOf.l0 k1 (y112.length : Int) (wrap64 (x19_1 + 1)) a0_0 y106 y117) = some (r1, r2, r3) := by first | (rw [hy117]; with_reducible exact H) | (have H2_ := (Option.bind_some _ _).symm.trans H; rw [hy117]; with_reducible exact H2_) | (have H2_ := (Option.bind_some _ _).symm.trans H; with_reducible exact H2_) | with_reducible exact H | (rw [hy117]; exact H) | exact H
        have Ny117 := Aside0.mk hy117
        clear hy117
        have H' := Aside0.mk H
        clear H
        try go_wp2
        have n0_ := Aside0.mk (Kd.R_drew HO_116001.out)
        have n1_ := Aside0.mk (Kd.R_drew HO_116002.out)
        have n2_ := Aside0.mk (blk_drew BK101.out)
        have n3_ := Aside0.mk (blk_drew BK102.out)
        have n4_ := Aside0.mk (blk_drew BK115.out)
        have n5_ := Aside0.mk (below_drew1 HB.out)
        clear HO_116001
        clear HO_116002
        clear BK101
        clear BK102
        clear BK115
        clear HB
        have HO_116001 := n0_
        have HO_116002 := n1_
        have BK101 := n2_
        have BK102 := n3_
        have BK115 := n4_
        have HB := n5_
        clear n0_ n1_ n2_ n3_ n4_ n5_
        obtain ⟨Ao30, co30, eo30⟩ := Kd.R_slice HO_116002.out
        (first | subst eo30 | (injection eo30 with f1_ f2_ f3_; have f4_ := f1_.symm; have f5_ := f3_.symm; clear f1_ f2_ f3_; subst f4_; subst f5_))
        have p116 : 0 ≤ (x19_1 : Int) := of_decide_eq_true (by first | (with_reducible assumption) | assumption)
        have q116 : x19_1 < (x116002_1.length : Int) := of_decide_eq_true (by first | (with_reducible assumption) | assumption)
        obtain ⟨ad116, e116, hx116_0, hx116_1, hx116_2, hx116_3⟩ := at_T54 (Kd.R_reads' HO_116002.out).2.2 x19_1 p116 q116
        cases e116
        replace p116 := eq_true p116
        replace q116 := eq_true q116
        have p28 : 0 ≤ (x19_1 : Int) := of_decide_eq_true (by first | (with_reducible assumption) | assumption)
        have q28 : (x19_1 : Int) < ((x116002_1.length : Int) : Int) := of_decide_eq_true (by first | (with_reducible assumption) | assumption)
        obtain ⟨go28, co28, eo28, gb28, gl28, cl28, HG28⟩ := Kd.R_form HO_116002.out (by omega)
        (first | cases eo28 | (injection eo28 with ea_ en_ ec_; (first | subst ea_ | (injection ea_ with ea_; subst ea_)); subst ec_; clear en_))
        have GB28 := Aside0.mk gb28
        have GG28 := Aside0.mk HG28
        clear gb28 gl28 HG28
        (first | simp only [add_plain] at hx116_0 | skip)
        (first | simp only [add_plain] at hx116_1 | skip)
        (first | simp only [add_plain] at hx116_2 | skip)
        (first | simp only [add_plain] at hx116_3 | skip)
        obtain ⟨ce28, hcl28, hM28, hcc28, hfr28⟩ := Kd.R_elem HO_116002.out z54 (x19_1 : Int) p28 q28
        obtain rfl := k54_openM hM28
        have hx28_0 : World.cell? _ ⟨go28, (x19_1 : Int).toNat * 4, none⟩ = some (.int .i64 ((rd_T54 x116002_1 x19_1).f0)) := hcc28 0 _ rfl
        have hx28_1 : World.cell? _ ⟨go28, (x19_1 : Int).toNat * 4 + 1, none⟩ = some (.bool ((rd_T54 x116002_1 x19_1).f1)) := hcc28 1 _ rfl
        have hx28_2 : World.cell? _ ⟨go28, (x19_1 : Int).toNat * 4 + 2, none⟩ = some (.int .i64 ((rd_T54 x116002_1 x19_1).f2)) := hcc28 2 _ rfl
        have hx28_3 : World.cell? _ ⟨go28, (x19_1 : Int).toNat * 4 + 3, none⟩ = some (.int .i64 ((rd_T54 x116002_1 x19_1).f3)) := hcc28 3 _ rfl
        have hf28_0 : World.frozen? _ ⟨go28, (x19_1 : Int).toNat * 4, none⟩ = false := hfr28 0
        have hf28_1 : World.frozen? _ ⟨go28, (x19_1 : Int).toNat * 4 + 1, none⟩ = false := hfr28 1
        have hf28_2 : World.frozen? _ ⟨go28, (x19_1 : Int).toNat * 4 + 2, none⟩ = false := hfr28 2
        have hf28_3 : World.frozen? _ ⟨go28, (x19_1 : Int).toNat * 4 + 3, none⟩ = false := hfr28 3
        clear hcl28 hcc28 hfr28 hM28
        replace p28 := eq_true p28
        replace q28 := eq_true q28
        obtain ⟨ce31, hcl31, hM31, hcc31, hfr31⟩ := Kd.R_elem HO_116002.out z54 (x19_1 : Int) (of_decide_eq_true (by first | (with_reducible assumption) | assumption)) (by have h_ : (x19_1 : Int) < ((x116002_1.length : Int) : Int) := of_decide_eq_true (by first | (with_reducible assumption) | assumption); first | exact h_ | (have e_ := (Kd.R_reads' HO_116002.out).1; omega) | simpa using h_)
        obtain rfl := k54_openM hM31
        have HP31 := (Kd.R_seg HO_116002.out (x19_1 : Int) (of_decide_eq_true (by first | (with_reducible assumption) | assumption)) (by have h_ : (x19_1 : Int) < ((x116002_1.length : Int) : Int) := of_decide_eq_true (by first | (with_reducible assumption) | assumption); first | exact h_ | (have e_ := (Kd.R_reads' HO_116002.out).1; omega) | simpa using h_) (seg := [.bool (!((rd_T54 x116002_1 x19_1).f1))]) (j := 1) hcl31 hcc31 (show 2 ≤ 4 from by decide) (x' := (⟨(rd_T54 x116002_1 x19_1).f0, !((rd_T54 x116002_1 x19_1).f1), (rd_T54 x116002_1 x19_1).f2, (rd_T54 x116002_1 x19_1).f3⟩ : S54)) (k54_mkM _ _ _ (⟨(rd_T54 x116002_1 x19_1).f0, !((rd_T54 x116002_1 x19_1).f1), (rd_T54 x116002_1 x19_1).f2, (rd_T54 x116002_1 x19_1).f3⟩ : S54) ) (fun _ hk => hk)).1
        rw [← Ny117.out] at HP31
        have HQ31 := Aside0.mk HP31
        clear hcl31 hcc31 hfr31 hM31 HP31
        refine start_ (n := 13) (S := fun w' => w'.cell? ⟨gb115, 0, none⟩ = some (.int .i64 a0_0) ∧ w'.cell? ⟨gb115, 1, none⟩ = some (.slice Ao18 y106.length co18) ∧ w'.cell? ⟨gb115, 2, none⟩ = some (.slice (some ⟨go28, 0, none⟩) x116002_1.length co30) ∧ w'.cell? ⟨go28, ((x19_1).toNat * 4), none⟩ = some (.int .i64 ((rd_T54 x116002_1 x19_1).f0)) ∧ w'.cell? ⟨go28, ((x19_1).toNat * 4) + 1, none⟩ = some (.bool ((rd_T54 x116002_1 x19_1).f1)) ∧ w'.cell? ⟨go28, ((x19_1).toNat * 4) + 2, none⟩ = some (.int .i64 ((rd_T54 x116002_1 x19_1).f2)) ∧ w'.cell? ⟨go28, ((x19_1).toNat * 4) + 3, none⟩ = some (.int .i64 ((rd_T54 x116002_1 x19_1).f3))) (ds := [12]) (bm 13 0) (by kernel_rfl) rfl (bm0 _) ⟨bc0 BK115, bc1 BK115, bc2 BK115, hx116_0, hx116_1, hx116_2, hx116_3⟩ (fun hHeld => ?_); refine with_tabW impl_DualOf.tab5 impl_DualOf.bits5 (fun HT_ HW_ => ?_)
        generalize wr.drew = w29 at HO_116001 HO_116002 BK101 BK102 BK115 HB GG28 HQ31 hf28_0 hf28_1 hf28_2 hf28_3 hx116_0 hx116_1 hx116_2 hx116_3 hx28_0 hx28_1 hx28_2 hx28_3 hHeld ⊢
        refine pure_ (i := 0) (N := some 22) (v := ?_) (a' := ?_) (bm 13 1) rfl rfl (any_of HT_.out (by kernel_rfl)) (fun _ _ _ h => h) (Or.inl ⟨by rfl, ?_⟩) ?_ ?_
        rotate_left
        ·intro w'
         go_simp
         with_reducible rfl
        rotate_left
        ·simp only [Act.put, List.setIfInBounds_toArray, List.set_cons_zero, List.set_cons_succ, i64_w, i32_w]
         rfl
        refine pure_ (i := 2) (N := some 24) (v := ?_) (a' := ?_) (bm 13 5) rfl rfl (any_of HT_.out (by kernel_rfl)) (fun _ _ _ h => h) (Or.inl ⟨by rfl, ?_⟩) ?_ ?_
        rotate_left
        ·intro w'
         go_simp
         with_reducible rfl
        rotate_left
        ·simp only [Act.put, List.setIfInBounds_toArray, List.set_cons_zero, List.set_cons_succ, i64_w, i32_w]
         rfl
        refine pure_ (i := 3) (N := some 25) (v := ?_) (a' := ?_) (bm 13 13) rfl rfl (any_of HT_.out (by kernel_rfl)) (fun _ _ _ h => h) (Or.inl ⟨by rfl, ?_⟩) ?_ ?_
        rotate_left
        ·intro w'
         go_simp
         with_reducible rfl
        rotate_left
        ·simp only [Act.put, List.setIfInBounds_toArray, List.set_cons_zero, List.set_cons_succ, i64_w, i32_w]
         rfl
        refine pure_ (i := 5) (N := some 27) (v := ?_) (a' := ?_) (bm 13 45) rfl rfl (any_of HT_.out (by kernel_rfl)) (fun _ _ _ h => h) (Or.inl ⟨by rfl, ?_⟩) ?_ ?_
        rotate_left
        ·intro w'
         go_simp
         with_reducible rfl
        rotate_left
        ·simp only [Act.put, List.setIfInBounds_toArray, List.set_cons_zero, List.set_cons_succ, i64_w, i32_w]
         rfl
        refine take_ (i := 1) (N := some 23) (v := ?_) (a' := ?_) (bm 13 47) rfl rfl (take_ofW HT_.out HW_.out (by kernel_rfl)) (fun _ _ _ h => h) (Or.inl ⟨by rfl, ?_⟩) hHeld ?_ ?_
        rotate_left
        ·rintro w' ⟨s0, s1, s2, s3, s4, s5, s6⟩
         go_simp
         with_reducible rfl
        rotate_left
        ·simp only [Act.put, List.setIfInBounds_toArray, List.set_cons_zero, List.set_cons_succ, i64_w, i32_w]
         rfl
        refine take_ (i := 4) (N := some 26) (v := ?_) (a' := ?_) (bm 13 63) rfl rfl (take_ofW HT_.out HW_.out (by kernel_rfl)) (fun _ _ _ h => h) (Or.inl ⟨by rfl, ?_⟩) hHeld ?_ ?_
        rotate_left
        ·rintro w' ⟨s0, s1, s2, s3, s4, s5, s6⟩
         go_simp
         with_reducible rfl
        rotate_left
        ·simp only [Act.put, List.setIfInBounds_toArray, List.set_cons_zero, List.set_cons_succ, i64_w, i32_w]
         rfl
        refine pure_ (i := 6) (N := some 28) (v := ?_) (a' := ?_) (bm 13 127) rfl rfl (any_of HT_.out (by kernel_rfl)) (fun _ _ _ h => h) (Or.inl ⟨by rfl, ?_⟩) ?_ ?_
        rotate_left
        ·intro w'
         go_simp
         with_reducible rfl
        rotate_left
        ·simp only [Act.put, List.setIfInBounds_toArray, List.set_cons_zero, List.set_cons_succ, i64_w, i32_w]
         rfl
        refine pure_ (i := 7) (N := some 29) (v := ?_) (a' := ?_) (bm 13 255) rfl rfl (any_of HT_.out (by kernel_rfl)) (fun _ _ _ h => h) (Or.inl ⟨by rfl, ?_⟩) ?_ ?_
        rotate_left
        ·intro w'
         go_simp
         with_reducible rfl
        rotate_left
        ·simp only [Act.put, List.setIfInBounds_toArray, List.set_cons_zero, List.set_cons_succ, i64_w, i32_w]
         rfl
        refine take_ (i := 8) (N := some 30) (v := ?_) (a' := ?_) (bm 13 511) rfl rfl (take_ofW HT_.out HW_.out (by kernel_rfl)) (fun _ _ _ h => h) (Or.inl ⟨by rfl, ?_⟩) hHeld ?_ ?_
        rotate_left
        ·rintro w' ⟨s0, s1, s2, s3, s4, s5, s6⟩
         go_simp
         with_reducible rfl
        rotate_left
        ·simp only [Act.put, List.setIfInBounds_toArray, List.set_cons_zero, List.set_cons_succ, i64_w, i32_w]
         rfl
        refine pure_ (i := 9) (N := some 31) (v := ?_) (a' := ?_) (bm 13 1023) rfl rfl (any_of HT_.out (by kernel_rfl)) (fun _ _ _ h => h) (Or.inl ⟨by rfl, ?_⟩) ?_ ?_
        rotate_left
        ·intro w'
         go_simp
         with_reducible rfl
        rotate_left
        ·simp only [Act.put, List.setIfInBounds_toArray, List.set_cons_zero, List.set_cons_succ, i64_w, i32_w]
         rfl
        refine pure_ (i := 10) (N := some 32) (v := ?_) (a' := ?_) (bm 13 2047) rfl rfl (any_of HT_.out (by kernel_rfl)) (fun _ _ _ h => h) (Or.inl ⟨by rfl, ?_⟩) ?_ ?_
        rotate_left
        ·intro w'
         go_simp
         with_reducible rfl
        rotate_left
        ·simp only [Act.put, List.setIfInBounds_toArray, List.set_cons_zero, List.set_cons_succ, i64_w, i32_w]
         rfl
        refine pure_ (i := 11) (N := some 33) (v := ?_) (a' := ?_) (bm 13 4095) rfl rfl (any_of HT_.out (by kernel_rfl)) (fun _ _ _ h => h) (Or.inl ⟨by rfl, ?_⟩) ?_ ?_
        rotate_left
        ·intro w'
         go_simp
         with_reducible rfl
        rotate_left
        ·simp only [Act.put, List.setIfInBounds_toArray, List.set_cons_zero, List.set_cons_succ, i64_w, i32_w]
         rfl
        refine last_ (i := 12) (N := none) (bm 13 8191) rfl rfl (one_of HT_.out (by kernel_rfl)) (by decide) (fun K hK => ?_)
        refine skip_ (w1 := ?_) (by rfl) rfl ?_ ?_
        rotate_left
        ·go_simp
         rfl
        refine hK.out _ _ ?_
        clear hK K
        refine done_ (done_of HT_.out (by kernel_rfl)) ?_
        try clear hHeld
        try go_wp2
        go_roundg k1
        case measure => have := HK1.out; omega
        case rel => exact ⟨(wrap64 (x19_1 + 1)), (y117), (.slice (some ⟨go28, 0, none⟩) x116002_1.length co30), zF, H', ⟨by have := HK1.out; omega⟩, ⟨by (with_reducible repeat (first | apply Kd.R_alloc | apply Kd.R_drewN | apply Kd.R_drew)); exact Kd.R_mono (Kd.R_far (p := ⟨go28, (x19_1 : Int).toNat * 4 + 1, none⟩) (Kd.R_types HO_116001.out GG28.out (by decide)) (fun _ hk => hk.2) (.bool (!((rd_T54 x116002_1 x19_1).f1)))) (fun _ hk => trivial)⟩, ⟨zR HQ31⟩, ⟨by (with_reducible repeat (first | refine blk_drewN ?_ _ | refine blk_drew ?_ | refine blk_alloc ?_ _)); refine blk_far ?_ (by have h_ := Kd.R_ne HO_116002.out BK101.out (by decide); intro e_; exact h_ (by rw [e_]; rfl)) _; (with_reducible repeat (first | refine blk_drewN ?_ _ | refine blk_drew ?_ | refine blk_alloc ?_ _)); exact BK101.out⟩, ⟨by (with_reducible repeat (first | refine blk_drewN ?_ _ | refine blk_drew ?_ | refine blk_alloc ?_ _)); refine blk_far ?_ (by have h_ := Kd.R_ne HO_116002.out BK102.out (by decide); intro e_; exact h_ (by rw [e_]; rfl)) _; (with_reducible repeat (first | refine blk_drewN ?_ _ | refine blk_drew ?_ | refine blk_alloc ?_ _)); exact BK102.out⟩, ⟨by (with_reducible repeat (first | refine blk_drewN ?_ _ | refine blk_drew ?_ | refine blk_alloc ?_ _)); refine blk_far ?_ (by have h_ := Kd.R_ne HO_116002.out BK115.out (by decide); intro e_; exact h_ (by rw [e_]; rfl)) _; (with_reducible repeat (first | refine blk_drewN ?_ _ | refine blk_drew ?_ | refine blk_alloc ?_ _)); exact BK115.out⟩, ⟨zB HB⟩⟩
       ·rw [if_neg c27] at H
        exact absurd H (by simp)
      ·rw [if_neg c26] at H
       exact absurd H (by simp)
     ·rw [if_neg c25] at H
      have c25b0 : decide (x19_1 < (y112.length : Int)) = false := decide_eq_false c25
      clear c25
      simp only [Option.some.injEq, Prod.mk.injEq] at H
      obtain ⟨rfl, rfl, rfl⟩ := H
      have hnb32 := NB115_101.out
      have hnc32 := NB101_115.out
      have hnb33 := NB115_102.out
      have hnc33 := NB102_115.out
      have hcz34_0 := bc0 BK115
      have hcz34_1 := bc1 BK115
      have hcz34_2 := bc2 BK115
      have hfz34_0 := bf BK115 0
      have hfz34_1 := bf BK115 1
      have hfz34_2 := bf BK115 2
      have hnb35 := NB102_101.out
      have hnc35 := NB101_102.out
      have hcz36_0 := bc0 BK102
      have hcz36_1 := bc1 BK102
      have hcz36_2 := bc2 BK102
      have hfz36_0 := bf BK102 0
      have hfz36_1 := bf BK102 1
      have hfz36_2 := bf BK102 2
      obtain ⟨Ao37, co37, eo37⟩ := Kd.R_slice HO_116002.out
      subst eo37
      go_wp2
      refine bodyPost_ret (results_cell_row rfl _ _ gb102 29 #[.int .i64 a0_0, .slice Ao18 y106.length co18, .slice Ao37 x116002_1.length co37] (0, 0) _ rfl (by (with_reducible repeat (first | refine blk_drewN ?_ _ | refine blk_drew ?_ | refine blk_alloc ?_ _)); refine blk_put (cs := #[.int .i64 a0_0, .slice Ao18 y106.length co18, .slice none 0 0]) ?_ 2 _ rfl; (with_reducible repeat (first | refine blk_drewN ?_ _ | refine blk_drew ?_ | refine blk_alloc ?_ _)); refine blk_put (cs := #[.int .i64 a0_0, .slice none 0 0, .slice none 0 0]) ?_ 1 _ rfl; (with_reducible repeat (first | refine blk_drewN ?_ _ | refine blk_drew ?_ | refine blk_alloc ?_ _)); refine blk_put (cs := #[.int .i64 0, .slice none 0 0, .slice none 0 0]) ?_ 0 _ rfl; (with_reducible repeat (first | refine blk_drewN ?_ _ | refine blk_drew ?_ | refine blk_alloc ?_ _)); exact BK102.out) Try.underlying29 rfl (by kernel_rfl)) rfl ?_
      exact ⟨_, _, by first | rfl | (simp [errW_none, errW_some] <;> rfl) | (simp [*, errW_none, errW_some] <;> rfl), by (with_reducible repeat (first | apply Kd.R_alloc | apply Kd.R_drewN | apply Kd.R_drew)); exact Kd.R_mono (Kd.R_far (p := ⟨gb102, 2, none⟩) (Kd.R_far (p := ⟨gb102, 1, none⟩) (Kd.R_far (p := ⟨gb102, 0, none⟩) (Kd.R_types HO_116001.out BK102.out (by decide)) (fun _ hk => hk.2) (.int .i64 a0_0)) (fun _ hk => hk.2) (.slice Ao18 y106.length co18)) (fun _ hk => hk.2) (.slice Ao37 x116002_1.length co37)) (fun _ hk => trivial), by (with_reducible repeat (first | apply Kd.R_alloc | apply Kd.R_drewN | apply Kd.R_drew)); exact Kd.R_mono (Kd.R_far (p := ⟨gb102, 2, none⟩) (Kd.R_far (p := ⟨gb102, 1, none⟩) (Kd.R_far (p := ⟨gb102, 0, none⟩) (Kd.R_types HO_116002.out BK102.out (by decide)) (fun _ hk => hk.2) (.int .i64 a0_0)) (fun _ hk => hk.2) (.slice Ao18 y106.length co18)) (fun _ hk => hk.2) (.slice Ao37 x116002_1.length co37)) (fun _ hk => trivial), by repeat (first | (with_reducible first | exact HB.out | apply below_alloc | apply pw_below_drewN | apply below_drew1 | refine below_set ?_ GE101.out | refine below_set ?_ GE102.out | refine below_set ?_ GE115.out) | exact HB.out)⟩
  ·rw [if_neg c3] at H
   exact absurd H (by simp)
 ·rw [if_neg c2] at H
  exact absurd H (by simp)

end Go.Proofs.Ytjlaogjikkckkaa.PFnMachines
