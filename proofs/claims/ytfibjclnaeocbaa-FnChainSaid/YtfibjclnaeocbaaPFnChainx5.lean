-- WRITTEN by pp.py, this session's own wrapper around the print; not trusted: Lean checks it
import Derived.Test.YtfibjclnaeocbaaPFnChainx0
namespace Go.Proofs.Ytfibjclnaeocbaa.PFnChain
open Go.RowKit Go.Proofs.Ytfibjclnaeocbaa.Hw Go.Proofs.YtfibjclnaeocbaaW.PrintWords Go.Proofs.YtfibjclnaeocbaaW.PrintLast Go.Proofs.YtfibjclnaeocbaaW.PrintMore
attribute [local go_sem] max2_int min2_int max_two min_two max_three min_three max_four min_four   -- for this text's walks alone
set_option linter.unusedVariables false
set_option linter.unusedSimpArgs false
set_option linter.unusedSectionVars false

/-! ### spec_DualOf: function 49 -/
def spec_DualOf.l0 : Nat → Int → Int → List Bool → List (S46) → Int → List Bool → List (S46) → Option (Int × List Bool × (List (S46)))
 | 0, _, _, _, _, _, _, _ => none
 | k + 1, x4, x223000, x223001, x223002, x231000, x231001, x231002 => if x4 < (x223002.length : Int) then (if 0 ≤ x4 then (if x231002.length < 4398046511104 then (spec_DualOf.l0 k (wrap64 (x4 + 1)) x223000 x223001 x223002 x231000 x231001 (x231002 ++ [(⟨(rd_T46 x223002 x4).f0, !((rd_T46 x223002 x4).f1), (rd_T46 x223002 x4).f2, (rd_T46 x223002 x4).f3⟩ : S46)])) else (none)) else (none)) else (some (x231000, x231001, x231002))
def spec_DualOf.f (k : Nat) (a0_0 : Int) (l0_1 : List Bool) (l0_2 : List (S46)) : Option (Int × List Bool × (List (S46))) := (some (([] : List Bool) : List Bool)).bind fun y224 => (if y224.length + l0_1.length < 140737488355328 then (spec_DualOf.l0 k 0 a0_0 l0_1 l0_2 a0_0 (y224 ++ l0_1) ([] : List (S46))) else (none))
theorem spec_DualOf.mono_l : ∀ k, (∀ y0 y1 y2 y3 y4 y5 y6, LeO (spec_DualOf.l0 k y0 y1 y2 y3 y4 y5 y6) (spec_DualOf.l0 (k + 1) y0 y1 y2 y3 y4 y5 y6))
 | 0 => fun _ _ _ _ _ _ _ r h => by simp [spec_DualOf.l0] at h
 | k + 1 => by
  have ih0 := spec_DualOf.mono_l k
  ·intro y0 y1 y2 y3 y4 y5 y6
   unfold spec_DualOf.l0
   repeat' first
   | (with_reducible exact ih0 _ _ _ _ _ _ _)
   | (with_reducible exact LeO.refl _)
   | (with_reducible exact LeO.none _)
   | (with_reducible refine LeO.ite ?_ ?_)
   | (with_reducible refine LeO.bind ?_ (fun _ => ?_))
   | exact ih0 _ _ _ _ _ _ _
   | exact LeO.none _
   | refine LeO.ite ?_ ?_
   | refine LeO.bind ?_ (fun _ => ?_)
theorem spec_DualOf.mono : ∀ a0 a1 a2 k, LeO (spec_DualOf.f k a0 a1 a2) (spec_DualOf.f (k + 1) a0 a1 a2) := by
 intro a0 a1 a2 k
 have ih0 := spec_DualOf.mono_l k
 unfold spec_DualOf.f
 repeat' first
   | (with_reducible exact ih0 _ _ _ _ _ _ _)
   | (with_reducible exact LeO.refl _)
   | (with_reducible exact LeO.none _)
   | (with_reducible refine LeO.ite ?_ ?_)
   | (with_reducible refine LeO.bind ?_ (fun _ => ?_))
   | exact ih0 _ _ _ _ _ _ _
   | exact LeO.none _
   | refine LeO.ite ?_ ?_
   | refine LeO.bind ?_ (fun _ => ?_)
def spec_DualOf.T1 : Bool × List (List Nat × List Nat) := (true, [([], []), ([0], [0]), ([], []), ([], []), ([3], [3]), ([2, 4], [2, 4]), ([1, 5], [1, 5]), ([], []), ([7, 6, 5, 0, 1, 2, 3, 4, 5, 6, 7], [6, 7])])
def spec_DualOf.B1 : List Nat := [0, 1, 0, 0, 8, 28, 63, 0, 255]
theorem spec_DualOf.tab1 : rtab .any (opsOf Try.f49 1) = spec_DualOf.T1 := by kernel_rfl
theorem spec_DualOf.bits1 : waitsOk spec_DualOf.T1.2 spec_DualOf.B1 = true := by kernel_rfl
set_option maxHeartbeats 8000000 in
set_option maxRecDepth 100000 in
theorem spec_DualOf.calls (k : Nat) (a0_0 : Int) (A0_1 : Option Addr) (c0_1 : Nat) (l0_1 : List Bool) (A0_2 : Option Addr) (c0_2 : Nat) (l0_2 : List (S46)) (r1 : Int) (r2 : List Bool) (r3 : List (S46)) (w : World) (hr0_1 : Kd.C Kd.bool w A0_1 l0_1.length l0_1) (hc0_1 : l0_1.length ≤ c0_1) (hr0_2 : Kd.C k46 w A0_2 l0_2.length l0_2) (hc0_2 : l0_2.length ≤ c0_2) (h : spec_DualOf.f k a0_0 l0_1 l0_2 = some (r1, r2, r3)) :
  Calls Try.prog 49 #[.agg #[.int .i64 a0_0, .slice A0_1 l0_1.length c0_1, .slice A0_2 l0_2.length c0_2]] w fun e w' => ∃ v1_ v2_ : Value, e = .returned (.agg #[.int .i64 r1, v1_, v2_]) ∧ Kd.R Kd.bool 4 w' w.heap.size (fun _ => True) v1_ r2 ∧ Kd.R k46 46 w' w.heap.size (fun _ => True) v2_ r3 ∧ Below w.heap.size w w' := by
 have hu27 := Try.underlying27
 have hu46 := Try.underlying46
 have HR0_1 := Aside0.mk hr0_1
 have HC0_1 := Aside0.mk hc0_1
 clear hr0_1 hc0_1
 have HR0_2 := Aside0.mk hr0_2
 have HC0_2 := Aside0.mk hc0_2
 clear hr0_2 hc0_2
 have HB := Aside0.mk (Below.refl w.heap.size w)
 have H : ((some (([] : List Bool) : List Bool)).bind fun y224 => (if y224.length + l0_1.length < 140737488355328 then (spec_DualOf.l0 k 0 a0_0 l0_1 l0_2 a0_0 (y224 ++ l0_1) ([] : List (S46))) else (none))) = some (r1, r2, r3) := h
 clear h
 obtain ⟨y224, hy224⟩ : ∃ y_ : List Bool, y_ = (([] : List Bool)) := ⟨_, rfl⟩
 replace H : (if y224.length + l0_1.length < 140737488355328 then (spec_DualOf.l0 k 0 a0_0 l0_1 l0_2 a0_0 (y224 ++ l0_1) ([] : List (S46))) else (none)) = some (r1, r2, r3) := by first | (rw [hy224]; with_reducible exact H) | (rw [hy224]; exact H) | exact H
 have Ny224 := Aside0.mk hy224
 clear hy224
 by_cases c2 : y224.length + l0_1.length < 140737488355328
 ·rw [if_pos c2] at H
  have LMc2 := Aside0.mk c2
  clear c2
  obtain ⟨y227, hy227⟩ : ∃ y_ : List Bool, y_ = (y224 ++ l0_1) := ⟨_, rfl⟩
  replace H : (spec_DualOf.l0 k 0 a0_0 l0_1 l0_2 a0_0 y227 ([] : List (S46))) = some (r1, r2, r3) := by first | (rw [hy227]; with_reducible exact H) | (rw [hy227]; exact H) | exact H
  have Ny227 := Aside0.mk hy227
  clear hy227
  have H' := Aside0.mk H
  clear H
  go_enter Try.func49, Try.ntmps49
  try go_wp2_with (first | ((with_reducible refine gate_dst (N := 1) rfl ?_); refine box_event ?hg (N := 1) ?hd (cs := #[.int .i64 a0_0, .slice A0_1 l0_1.length c0_1, .slice A0_2 l0_2.length c0_2]) (t := 27) ?hr ?_; (case hd => rfl); (case hg => rfl); (case hr => first | (go_simp; done) | (go_simp; rfl)); intro gb222 hg w3 hbox hb; have BK222 := Aside0.mk (hbox); have GW222 := gS HB hg; have GE222 := gS HB hg; replace HB := bS HB hb; clear hb hbox hg) | ((with_reducible refine gate_dst (N := 2) rfl ?_); refine box_event ?hg (N := 2) ?hd (cs := #[.int .i64 0, .slice none 0 0, .slice none 0 0]) (t := 27) ?hr ?_; (case hd => rfl); (case hg => rfl); (case hr => first | (go_simp; done) | (go_simp; rfl)); intro gb223 hg w4 hbox hb; have BK223 := Aside0.mk (hbox); have GW223 := gS HB hg; have GE223 := gS HB hg; replace HB := bS HB hb; have NB222_223 := nL BK222 hg; have NB223_222 := nR BK222 hg; replace BK222 := kB BK222 hb; clear hb hbox hg))
  replace BK222 := Aside0.mk (blk_drew BK222.out)
  replace BK223 := Aside0.mk (blk_drew BK223.out)
  replace HB := Aside0.mk (below_drew1 HB.out)
  refine start_ (n := 9) (S := fun w' => w'.cell? ⟨gb222, 0, none⟩ = some (.int .i64 a0_0) ∧ w'.cell? ⟨gb222, 1, none⟩ = some (.slice A0_1 l0_1.length c0_1) ∧ w'.cell? ⟨gb222, 2, none⟩ = some (.slice A0_2 l0_2.length c0_2)) (ds := []) (bm 9 0) (by kernel_rfl) rfl (bm0 _) ⟨bc0 BK222, bc1 BK222, bc2 BK222⟩ (fun hHeld => ?_); refine with_tabW spec_DualOf.tab1 spec_DualOf.bits1 (fun HT_ HW_ => ?_)
  generalize w4.drew = w5 at BK222 BK223 HB hHeld ⊢
  refine pU 0 (some 6) (bm 9 1) HT_ rfl rfl ?_
  refine pU 3 (some 9) (bm 9 9) HT_ rfl rfl ?_
  refine tU 1 (some 7) (bm 9 11) HT_ HW_ rfl rfl hHeld ?_
  refine tU 4 (some 10) (bm 9 27) HT_ HW_ rfl rfl hHeld ?_
  refine join_ (σ := Value × Value × Nat) 1 (bm 9 255) (fun s_ => [(8, s_.1), (11, s_.2.1), (3, .pointer (some ⟨s_.2.2, 0, none⟩)), (12, .agg #[.int .i64 a0_0, s_.2.1, .slice none 0 0])]) (fun s_ w' => (w'.cell? ⟨gb222, 0, none⟩ = some (.int .i64 a0_0) ∧ w'.cell? ⟨gb222, 1, none⟩ = some (.slice A0_1 l0_1.length c0_1) ∧ w'.cell? ⟨gb222, 2, none⟩ = some (.slice A0_2 l0_2.length c0_2)) ∧ (Kd.R Kd.bool 4 w' w.heap.size (fun _ => True) s_.2.1 y227) ∧ (w'.heap[gb222]? = some (.cells #[.int .i64 a0_0, .slice A0_1 l0_1.length c0_1, .slice A0_2 l0_2.length c0_2] 27 (0, 0))) ∧ (w'.heap[gb223]? = some (.cells #[.int .i64 0, .slice none 0 0, .slice none 0 0] 27 (0, 0))) ∧ (w'.heap[s_.2.2]? = some (.cells #[.int .i64 0, .slice none 0 0, .slice none 0 0] 27 (0, 0))) ∧ (w.heap.size ≤ s_.2.2) ∧ (w.heap.size ≤ s_.2.2) ∧ (gb222 ≠ s_.2.2) ∧ (s_.2.2 ≠ gb222) ∧ (gb223 ≠ s_.2.2) ∧ (s_.2.2 ≠ gb223) ∧ (Below w.heap.size w w')) ?_ ?_
  rotate_left
  ·intro hCont
   refine two_ (i := 2) (j := 7) (Ni := some 8) (Nj := some 3) (bm 9 31) (bm 9 155) rfl rfl rfl rfl (two_of HT_.out (by kernel_rfl)) (by decide) (by decide) (fun K hK => ?_) (fun K hK => ?_)
   ·skip
    refine Kd.R_lit_step Kd.bool _ 4 ?hg (N := 8) ?hd (xs := ([] : List Bool)) (inner := []) (ok := fun _ => True) (okp := fun _ => True) ?hr ?hp (fun _ hk => hk) trivial (Below.refl _ _) (Nat.le_refl _) (by simp) ?_; (case hd => rfl); (case hg => rfl); (case hr => first | (go_simp; done) | (go_simp; rfl)); (case hp => exact (Reps.none _ _))
    intro v225 w6 ho7 hb hg_ hnew_
    clear hg_ hnew_
    (first | rw [← Ny224.out] at ho7 | (simp only [Int.reduceToNat] at ho7; rw [← Ny224.out] at ho7))
    have HO226 := Aside0.mk (Kd.R_lower ho7 (below_size (zB HB)))
    replace BK222 := kB BK222 hb
    replace BK223 := kB BK223 hb
    replace HB := bS HB hb
    clear hb ho7
    refine hK.out _ _ ⟨bc0 BK222, bc1 BK222, bc2 BK222⟩ (fun hHeld => ?_)
    clear hK K
    refine nU 8 ?_
    refine two_ (i := 5) (j := 7) (Ni := some 11) (Nj := some 3) (bm 9 63) (bm 9 159) rfl rfl rfl rfl (two_of HT_.out (by kernel_rfl)) (by decide) (by decide) (fun K hK => ?_) (fun K hK => ?_)
    ·skip
     refine Kd.R_append_rows_step Kd.bool (w0 := w) w.heap.size (by rfl) (.tmp 8) (.tmp 10) 24 4 (.bool false) 1 rfl Try.underlying24 info4 rfl (by decide) (by omega) v225 y224 l0_1 _ _ _ (fun _ => True) (fun _ => False) rfl rfl ?aO ?aR (fun _ _ h => h) (fun _ h => h.elim) ?aF ?aB ?aS ?aL ?_
     (case aR => repeat (first | exact (Kd.C_below HR0_1.out HB.out) | (with_reducible refine Kd.C_alloc ?_ _) | (with_reducible refine Kd.C_drewN ?_ _) | (with_reducible refine Kd.C_drew ?_)))
     (case aB => exact (zB HB))
     (case aF => exact (fun _ _ => trivial))
     (case aO => exact (zR HO226))
     (case aS => exact (below_size (zB HB)))
     (case aL => have := LMc2.out; omega)
     intro v228 w8 ho hb hg hat
     rw [← Ny227.out] at ho
     replace BK222 := Aside0.mk (blk_grown (g := gb222) (o := .cells #[.int .i64 a0_0, .slice A0_1 l0_1.length c0_1, .slice A0_2 l0_2.length c0_2] 27 (0, 0)) (zK BK222) hg (Kd.R_ne HO226.out BK222.out (by decide)))
     replace BK223 := Aside0.mk (blk_grown (g := gb223) (o := .cells #[.int .i64 0, .slice none 0 0, .slice none 0 0] 27 (0, 0)) (zK BK223) hg (Kd.R_ne HO226.out BK223.out (by decide)))
     replace HB := Aside0.mk (hb)
     have HO229 := Aside0.mk (ho)
     clear HO226
     clear ho hb hg hat
     obtain ⟨Ao9, co9, eo9⟩ := Kd.R_slice HO229.out
     (first | subst eo9 | (obtain ⟨f4_, f5_⟩ := slI eo9; subst f4_; subst f5_))
     refine hK.out _ _ ⟨bc0 BK222, bc1 BK222, bc2 BK222⟩ (fun hHeld => ?_)
     clear hK K
     refine nU 11 ?_
     refine pU 6 (some 12) (bm 9 127) HT_ rfl rfl ?_
     refine one_ (i := 7) (N := some 3) (bm 9 255) rfl rfl (one_of HT_.out (by kernel_rfl)) (by decide) (fun K hK => ?_)
     refine box_step ?hg (N := 3) ?hd (cs := #[.int .i64 0, .slice none 0 0, .slice none 0 0]) (t := 27) ?hr ?_; (case hd => rfl); (case hg => rfl); (case hr => first | (go_simp; done) | (go_simp; rfl))
     intro gb230 hg w10 hbox hb
     replace HO229 := Aside0.mk (Kd.R_below (zR HO229) hb)
     have BK230 := Aside0.mk (hbox)
     have GW230 := gS HB hg
     have GE230 := gS HB hg
     replace HB := bS HB hb
     have NB222_230 := nL BK222 hg
     have NB230_222 := nR BK222 hg
     replace BK222 := kB BK222 hb
     have NB223_230 := nL BK223 hg
     have NB230_223 := nR BK223 hg
     replace BK223 := kB BK223 hb
     clear hb hbox hg
     refine hK.out _ _ ⟨bc0 BK222, bc1 BK222, bc2 BK222⟩ (fun hHeld => ?_)
     clear hK K
     refine nU 3 ?_
     exact norm_ (by simp only [putAll, Act.put, List.setIfInBounds_toArray, List.set_cons_zero, List.set_cons_succ]) (hCont (v225, .slice Ao9 y227.length co9, gb230) _ ⟨hHeld, (zR HO229), (zK BK222), (zK BK223), (zK BK230), GW230.out, GE230.out, NB222_230.out, NB230_222.out, NB223_230.out, NB230_223.out, (zB HB)⟩)
    ·skip
     refine box_step ?hg (N := 3) ?hd (cs := #[.int .i64 0, .slice none 0 0, .slice none 0 0]) (t := 27) ?hr ?_; (case hd => rfl); (case hg => rfl); (case hr => first | (go_simp; done) | (go_simp; rfl))
     intro gb230 hg w8 hbox hb
     replace HO226 := Aside0.mk (Kd.R_below (zR HO226) hb)
     have BK230 := Aside0.mk (hbox)
     have GW230 := gS HB hg
     have GE230 := gS HB hg
     replace HB := bS HB hb
     have NB222_230 := nL BK222 hg
     have NB230_222 := nR BK222 hg
     replace BK222 := kB BK222 hb
     have NB223_230 := nL BK223 hg
     have NB230_223 := nR BK223 hg
     replace BK223 := kB BK223 hb
     clear hb hbox hg
     refine hK.out _ _ ⟨bc0 BK222, bc1 BK222, bc2 BK222⟩ (fun hHeld => ?_)
     clear hK K
     refine nU 3 ?_
     refine one_ (i := 5) (N := some 11) (bm 9 191) rfl rfl (one_of HT_.out (by kernel_rfl)) (by decide) (fun K hK => ?_)
     refine Kd.R_append_rows_step Kd.bool (w0 := w) w.heap.size (by rfl) (.tmp 8) (.tmp 10) 24 4 (.bool false) 1 rfl Try.underlying24 info4 rfl (by decide) (by omega) v225 y224 l0_1 _ _ _ (fun _ => True) (fun _ => False) rfl rfl ?aO ?aR (fun _ _ h => h) (fun _ h => h.elim) ?aF ?aB ?aS ?aL ?_
     (case aR => repeat (first | exact (Kd.C_below HR0_1.out HB.out) | (with_reducible refine Kd.C_alloc ?_ _) | (with_reducible refine Kd.C_drewN ?_ _) | (with_reducible refine Kd.C_drew ?_)))
     (case aB => exact (zB HB))
     (case aF => exact (fun _ _ => trivial))
     (case aO => exact (zR HO226))
     (case aS => exact (below_size (zB HB)))
     (case aL => have := LMc2.out; omega)
     intro v228 w9 ho hb hg hat
     rw [← Ny227.out] at ho
     replace BK222 := Aside0.mk (blk_grown (g := gb222) (o := .cells #[.int .i64 a0_0, .slice A0_1 l0_1.length c0_1, .slice A0_2 l0_2.length c0_2] 27 (0, 0)) (zK BK222) hg (Kd.R_ne HO226.out BK222.out (by decide)))
     replace BK223 := Aside0.mk (blk_grown (g := gb223) (o := .cells #[.int .i64 0, .slice none 0 0, .slice none 0 0] 27 (0, 0)) (zK BK223) hg (Kd.R_ne HO226.out BK223.out (by decide)))
     replace BK230 := Aside0.mk (blk_grown (g := gb230) (o := .cells #[.int .i64 0, .slice none 0 0, .slice none 0 0] 27 (0, 0)) (zK BK230) hg (Kd.R_ne HO226.out BK230.out (by decide)))
     replace HB := Aside0.mk (hb)
     have HO229 := Aside0.mk (ho)
     clear HO226
     clear ho hb hg hat
     obtain ⟨Ao10, co10, eo10⟩ := Kd.R_slice HO229.out
     (first | subst eo10 | (obtain ⟨f4_, f5_⟩ := slI eo10; subst f4_; subst f5_))
     refine hK.out _ _ ⟨bc0 BK222, bc1 BK222, bc2 BK222⟩ (fun hHeld => ?_)
     clear hK K
     refine nU 11 ?_
     refine pU 6 (some 12) (bm 9 255) HT_ rfl rfl ?_
     exact norm_ (by simp only [putAll, Act.put, List.setIfInBounds_toArray, List.set_cons_zero, List.set_cons_succ]) (hCont (v225, .slice Ao10 y227.length co10, gb230) _ ⟨hHeld, (zR HO229), (zK BK222), (zK BK223), (zK BK230), GW230.out, GE230.out, NB222_230.out, NB230_222.out, NB223_230.out, NB230_223.out, (zB HB)⟩)
   ·skip
    refine box_step ?hg (N := 3) ?hd (cs := #[.int .i64 0, .slice none 0 0, .slice none 0 0]) (t := 27) ?hr ?_; (case hd => rfl); (case hg => rfl); (case hr => first | (go_simp; done) | (go_simp; rfl))
    intro gb230 hg w6 hbox hb
    have BK230 := Aside0.mk (hbox)
    have GW230 := gS HB hg
    have GE230 := gS HB hg
    replace HB := bS HB hb
    have NB222_230 := nL BK222 hg
    have NB230_222 := nR BK222 hg
    replace BK222 := kB BK222 hb
    have NB223_230 := nL BK223 hg
    have NB230_223 := nR BK223 hg
    replace BK223 := kB BK223 hb
    clear hb hbox hg
    refine hK.out _ _ ⟨bc0 BK222, bc1 BK222, bc2 BK222⟩ (fun hHeld => ?_)
    clear hK K
    refine nU 3 ?_
    refine one_ (i := 2) (N := some 8) (bm 9 159) rfl rfl (one_of HT_.out (by kernel_rfl)) (by decide) (fun K hK => ?_)
    refine Kd.R_lit_step Kd.bool _ 4 ?hg (N := 8) ?hd (xs := ([] : List Bool)) (inner := []) (ok := fun _ => True) (okp := fun _ => True) ?hr ?hp (fun _ hk => hk) trivial (Below.refl _ _) (Nat.le_refl _) (by simp) ?_; (case hd => rfl); (case hg => rfl); (case hr => first | (go_simp; done) | (go_simp; rfl)); (case hp => exact (Reps.none _ _))
    intro v225 w7 ho8 hb hg_ hnew_
    clear hg_ hnew_
    (first | rw [← Ny224.out] at ho8 | (simp only [Int.reduceToNat] at ho8; rw [← Ny224.out] at ho8))
    have HO226 := Aside0.mk (Kd.R_lower ho8 (below_size (zB HB)))
    replace BK222 := kB BK222 hb
    replace BK223 := kB BK223 hb
    replace BK230 := kB BK230 hb
    replace HB := bS HB hb
    clear hb ho8
    refine hK.out _ _ ⟨bc0 BK222, bc1 BK222, bc2 BK222⟩ (fun hHeld => ?_)
    clear hK K
    refine nU 8 ?_
    refine one_ (i := 5) (N := some 11) (bm 9 191) rfl rfl (one_of HT_.out (by kernel_rfl)) (by decide) (fun K hK => ?_)
    refine Kd.R_append_rows_step Kd.bool (w0 := w) w.heap.size (by rfl) (.tmp 8) (.tmp 10) 24 4 (.bool false) 1 rfl Try.underlying24 info4 rfl (by decide) (by omega) v225 y224 l0_1 _ _ _ (fun _ => True) (fun _ => False) rfl rfl ?aO ?aR (fun _ _ h => h) (fun _ h => h.elim) ?aF ?aB ?aS ?aL ?_
    (case aR => repeat (first | exact (Kd.C_below HR0_1.out HB.out) | (with_reducible refine Kd.C_alloc ?_ _) | (with_reducible refine Kd.C_drewN ?_ _) | (with_reducible refine Kd.C_drew ?_)))
    (case aB => exact (zB HB))
    (case aF => exact (fun _ _ => trivial))
    (case aO => exact (zR HO226))
    (case aS => exact (below_size (zB HB)))
    (case aL => have := LMc2.out; omega)
    intro v228 w9 ho hb hg hat
    rw [← Ny227.out] at ho
    replace BK222 := Aside0.mk (blk_grown (g := gb222) (o := .cells #[.int .i64 a0_0, .slice A0_1 l0_1.length c0_1, .slice A0_2 l0_2.length c0_2] 27 (0, 0)) (zK BK222) hg (Kd.R_ne HO226.out BK222.out (by decide)))
    replace BK223 := Aside0.mk (blk_grown (g := gb223) (o := .cells #[.int .i64 0, .slice none 0 0, .slice none 0 0] 27 (0, 0)) (zK BK223) hg (Kd.R_ne HO226.out BK223.out (by decide)))
    replace BK230 := Aside0.mk (blk_grown (g := gb230) (o := .cells #[.int .i64 0, .slice none 0 0, .slice none 0 0] 27 (0, 0)) (zK BK230) hg (Kd.R_ne HO226.out BK230.out (by decide)))
    replace HB := Aside0.mk (hb)
    have HO229 := Aside0.mk (ho)
    clear HO226
    clear ho hb hg hat
    obtain ⟨Ao10, co10, eo10⟩ := Kd.R_slice HO229.out
    (first | subst eo10 | (obtain ⟨f4_, f5_⟩ := slI eo10; subst f4_; subst f5_))
    refine hK.out _ _ ⟨bc0 BK222, bc1 BK222, bc2 BK222⟩ (fun hHeld => ?_)
    clear hK K
    refine nU 11 ?_
    refine pU 6 (some 12) (bm 9 255) HT_ rfl rfl ?_
    exact norm_ (by simp only [putAll, Act.put, List.setIfInBounds_toArray, List.set_cons_zero, List.set_cons_succ]) (hCont (v225, .slice Ao10 y227.length co10, gb230) _ ⟨hHeld, (zR HO229), (zK BK222), (zK BK223), (zK BK230), GW230.out, GE230.out, NB222_230.out, NB230_222.out, NB223_230.out, NB230_223.out, (zB HB)⟩)
  rintro ⟨v225, v228, gb230⟩ w11 ⟨hS_, h0_, h1_, h2_, h3_, h4_, h5_, h6_, h7_, h8_, h9_, h10_⟩
  have HO229 : Aside0 (Kd.R Kd.bool 4 w11 w.heap.size (fun _ => True) v228 y227) := ⟨h0_⟩
  replace BK222 : Aside0 (w11.heap[gb222]? = some (.cells #[.int .i64 a0_0, .slice A0_1 l0_1.length c0_1, .slice A0_2 l0_2.length c0_2] 27 (0, 0))) := ⟨h1_⟩
  replace BK223 : Aside0 (w11.heap[gb223]? = some (.cells #[.int .i64 0, .slice none 0 0, .slice none 0 0] 27 (0, 0))) := ⟨h2_⟩
  have BK230 : Aside0 (w11.heap[gb230]? = some (.cells #[.int .i64 0, .slice none 0 0, .slice none 0 0] 27 (0, 0))) := ⟨h3_⟩
  have GW230 : Aside0 (w.heap.size ≤ gb230) := ⟨h4_⟩
  have GE230 : Aside0 (w.heap.size ≤ gb230) := ⟨h5_⟩
  have NB222_230 : Aside0 (gb222 ≠ gb230) := ⟨h6_⟩
  have NB230_222 : Aside0 (gb230 ≠ gb222) := ⟨h7_⟩
  have NB223_230 : Aside0 (gb223 ≠ gb230) := ⟨h8_⟩
  have NB230_223 : Aside0 (gb230 ≠ gb223) := ⟨h9_⟩
  replace HB : Aside0 (Below w.heap.size w w11) := ⟨h10_⟩
  clear h0_ h1_ h2_ h3_ h4_ h5_ h6_ h7_ h8_ h9_ h10_
  have hHeld : w11.cell? ⟨gb222, 0, none⟩ = some (.int .i64 a0_0) ∧ w11.cell? ⟨gb222, 1, none⟩ = some (.slice A0_1 l0_1.length c0_1) ∧ w11.cell? ⟨gb222, 2, none⟩ = some (.slice A0_2 l0_2.length c0_2) := hS_
  obtain ⟨Ao12, co12, eo12⟩ := Kd.R_slice HO229.out
  (first | subst eo12 | (obtain ⟨f4_, f5_⟩ := slI eo12; subst f4_; subst f5_))
  refine norm_ (a' := ?_) ?_ ?_
  rotate_left
  ·simp only [putAll, Act.put, List.setIfInBounds_toArray, List.set_cons_zero, List.set_cons_succ]
   rfl
  refine one_ (i := 8) (N := none) (bm 9 511) rfl rfl (one_of HT_.out (by kernel_rfl)) (by decide) (fun K hK => ?_)
  have hs13 : w11.cell? ⟨gb230, 0, none⟩ = some (.int .i64 0) := bc0 BK230
  have hfs13 := bf BK230 0
  have hns13_0 := NB222_230.out
  have hns13_1 := NB223_230.out
  have hms13_0 := NB230_222.out
  have hms13_1 := NB230_223.out
  have hs14 : w11.cell? ⟨gb230, 1, none⟩ = some (.slice none 0 0) := bc1 BK230
  have hfs14 := bf BK230 1
  have hns14_0 := NB222_230.out
  have hns14_1 := NB223_230.out
  have hms14_0 := NB230_222.out
  have hms14_1 := NB230_223.out
  have hs15 : w11.cell? ⟨gb230, 2, none⟩ = some (.slice none 0 0) := bc2 BK230
  have hfs15 := bf BK230 2
  have hns15_0 := NB222_230.out
  have hns15_1 := NB223_230.out
  have hms15_0 := NB230_222.out
  have hms15_1 := NB230_223.out
  refine skip_ (w1 := ?_) (by rfl) rfl ?_ ?_
  rotate_left
  ·go_simp
   rfl
  refine hK.out _ _ ⟨((cell_far (p := ⟨gb230, _, none⟩) NB222_230.out _).trans (((cell_far (p := ⟨gb230, _, none⟩) NB222_230.out _).trans (((cell_far (p := ⟨gb230, _, none⟩) NB222_230.out _).trans (hHeld.1)))))), ((cell_far (p := ⟨gb230, _, none⟩) NB222_230.out _).trans (((cell_far (p := ⟨gb230, _, none⟩) NB222_230.out _).trans (((cell_far (p := ⟨gb230, _, none⟩) NB222_230.out _).trans (hHeld.2.1)))))), ((cell_far (p := ⟨gb230, _, none⟩) NB222_230.out _).trans (((cell_far (p := ⟨gb230, _, none⟩) NB222_230.out _).trans (((cell_far (p := ⟨gb230, _, none⟩) NB222_230.out _).trans (hHeld.2.2))))))⟩ (fun hHeld => ?_)
  clear hK K
  refine done_ (done_of HT_.out (by kernel_rfl)) ?_
  try clear hHeld
  try go_wp2
  go_loopg [4] k (fun kq v4 w' => ∃ (x4_1 : Int) (x231002_1 : List (S46)) (u231002 : Value), v4 = .int .i64 x4_1 ∧ Aside0 (spec_DualOf.l0 kq x4_1 a0_0 l0_1 l0_2 a0_0 y227 x231002_1 = some (r1, r2, r3)) ∧ Aside0 (kq ≤ k) ∧ Aside0 (Kd.R Kd.bool 4 w' w.heap.size (fun _ => True) (.slice Ao12 y227.length co12) y227) ∧ Aside0 (Kd.R k46 46 w' w.heap.size (fun _ => True) u231002 x231002_1) ∧ Aside0 (w'.heap[gb222]? = some (.cells #[.int .i64 a0_0, (.slice A0_1 l0_1.length c0_1), (.slice A0_2 l0_2.length c0_2)] 27 (0, 0))) ∧ Aside0 (w'.heap[gb223]? = some (.cells #[.int .i64 0, (.slice none 0 0), (.slice none 0 0)] 27 (0, 0))) ∧ Aside0 (w'.heap[gb230]? = some (.cells #[.int .i64 a0_0, (.slice Ao12 y227.length co12), u231002] 27 (0, 0))) ∧ Aside0 (Below w.heap.size w w'))
  case atStart => exact ⟨(0), (([] : List (S46))), (.slice none 0 0), zF, H', ⟨Nat.le_refl _⟩, ⟨Kd.R_mono (rB HO229 BK230) (fun _ hk => trivial)⟩, ⟨by first | exact Kd.R_nil _ _ _ _ _ | exact Kd.N_nil _ _ _ _ _ | exact Kd.V_nil _ _ _ _ _ | exact Kd.Q_nil _ _ _ _ _ | exact Kd.S_nil _ _ _ _ _⟩, ⟨kF BK222⟩, ⟨kF BK223⟩, ⟨by (with_reducible repeat (first | refine blk_drewN ?_ _ | refine blk_drew ?_ | refine blk_alloc ?_ _)); refine blk_put (cs := #[.int .i64 a0_0, .slice Ao12 y227.length co12, .slice none 0 0]) ?_ 2 _ rfl; (with_reducible repeat (first | refine blk_drewN ?_ _ | refine blk_drew ?_ | refine blk_alloc ?_ _)); refine blk_put (cs := #[.int .i64 a0_0, .slice none 0 0, .slice none 0 0]) ?_ 1 _ rfl; (with_reducible repeat (first | refine blk_drewN ?_ _ | refine blk_drew ?_ | refine blk_alloc ?_ _)); refine blk_put (cs := #[.int .i64 0, .slice none 0 0, .slice none 0 0]) ?_ 0 _ rfl; (with_reducible repeat (first | refine blk_drewN ?_ _ | refine blk_drew ?_ | refine blk_alloc ?_ _)); exact BK230.out⟩, ⟨zB HB⟩⟩
  case round =>
   clear H'
   try clear c2
   try clear p2
   try clear c4
   obtain ⟨x4_1, x231002_1, u231002, rfl, HA, HK1, HO_231001, HO_231002, BK222, BK223, BK230, HB⟩ := hrel
   cases gk with
   | zero => exact absurd HA.out (by simp [spec_DualOf.l0])
   | succ k1 =>
    have H := HA.out
    clear HA
    simp only [spec_DualOf.l0] at H
    by_cases c16 : x4_1 < (l0_2.length : Int)
    ·rw [if_pos c16] at H
     have c16b0 : decide (x4_1 < (l0_2.length : Int)) = true := decide_eq_true c16
     clear c16
     obtain ⟨c17, H⟩ := ifS H
     have c17b0 : decide (0 ≤ x4_1) = true := decide_eq_true c17
     clear c17
     obtain ⟨c18, H⟩ := ifS H
     have LMc18 := Aside0.mk c18
     clear c18
     obtain ⟨y233, hy233⟩ : ∃ y_ : List (S46), y_ = (x231002_1 ++ [(⟨(rd_T46 l0_2 x4_1).f0, !((rd_T46 l0_2 x4_1).f1), (rd_T46 l0_2 x4_1).f2, (rd_T46 l0_2 x4_1).f3⟩ : S46)]) := ⟨_, rfl⟩
     replace H : (spec_DualOf.l0 k1 (wrap64 (x4_1 + 1)) a0_0 l0_1 l0_2 a0_0 y227 y233) = some (r1, r2, r3) := by first | (rw [hy233]; with_reducible exact H) | (rw [hy233]; exact H) | exact H
     have Ny233 := Aside0.mk hy233
     clear hy233
     have H' := Aside0.mk H
     clear H
     have hnb19 := NB222_223.out
     have hnc19 := NB223_222.out
     have hnb20 := NB222_230.out
     have hnc20 := NB230_222.out
     obtain ⟨hcz21_0, hcz21_1, hcz21_2, hfz21_0, hfz21_1, hfz21_2⟩ := bq3 BK222
     have p231 : 0 ≤ (x4_1 : Int) := zD
     have q231 : x4_1 < (l0_2.length : Int) := zD
     obtain ⟨ad231, e231, hx231_0, hx231_1, hx231_2, hx231_3⟩ := at_T46 HR0_2.out x4_1 p231 q231
     cases e231
     replace hx231_0 := hL HB hx231_0
     replace hx231_1 := hL HB hx231_1
     replace hx231_2 := hL HB hx231_2
     replace hx231_3 := hL HB hx231_3
     replace p231 := eq_true p231
     replace q231 := eq_true q231
     go_wp2_with (first | ((with_reducible refine gate_dst (N := 5) rfl ?_); refine box_event ?hg (N := 5) ?hd (cs := #[.int .i64 0, .bool false, .int .i64 0, .int .i64 0]) (t := 46) ?hr ?_; (case hd => rfl); (case hg => rfl); (case hr => first | (go_simp; done) | (go_simp; rfl)); intro gb232 hg w22 hbox hb; replace HO_231001 := Aside0.mk (Kd.R_below (zR HO_231001) hb); replace HO_231002 := Aside0.mk (Kd.R_below (Kd.R_elderB (zR HO_231002) gb232 (Nat.le_of_eq hg.symm)) hb); have BK232 := Aside0.mk (hbox); have GW232 := gS HB hg; have GE232 := gS HB hg; replace HB := bS HB hb; have NB222_232 := nL BK222 hg; have NB232_222 := nR BK222 hg; replace BK222 := kB BK222 hb; have NB223_232 := nL BK223 hg; have NB232_223 := nR BK223 hg; replace BK223 := kB BK223 hb; have NB230_232 := nL BK230 hg; have NB232_230 := nR BK230 hg; replace BK230 := kB BK230 hb; clear hb hbox hg; have hnb23 := NB232_222.out; have hnc23 := NB222_232.out; have hnb24 := NB232_223.out; have hnc24 := NB223_232.out; have hnb25 := NB232_230.out; have hnc25 := NB230_232.out; obtain ⟨hcz26_0, hcz26_1, hcz26_2, hcz26_3, hfz26_0, hfz26_1, hfz26_2, hfz26_3⟩ := bq4 BK232) | ((with_reducible refine gate_store (t := 46) (p := 5) rfl ?_); refine store_event (t := 46) (p := 5) (v := ?vo_w27) (w1 := ((((w22.setCell ⟨gb232, 0, none⟩ (.int .i64 ((rd_T46 l0_2 x4_1).f0))).setCell ⟨gb232, 1, none⟩ (.bool ((rd_T46 l0_2 x4_1).f1))).setCell ⟨gb232, 2, none⟩ (.int .i64 ((rd_T46 l0_2 x4_1).f2))).setCell ⟨gb232, 3, none⟩ (.int .i64 ((rd_T46 l0_2 x4_1).f3)))) ?hg ?ho ?hn ?hr ?_; (case ho => rfl); (case hg => rfl); (case hn => rfl); (case hr => first | (go_simp; done) | (go_simp; rfl)); intro w27 hw; replace HO_231001 : Aside0 (Kd.R Kd.bool 4 w27 w.heap.size (fun _ => True) (.slice Ao12 y227.length co12) y227) := ⟨(by rw [hw]; exact (Kd.R_mono (rB HO_231001 BK232) (fun _ hk => trivial)))⟩; replace HO_231002 : Aside0 (Kd.R k46 46 w27 w.heap.size (fun k_ => k_ ≠ gb232) u231002 x231002_1) := ⟨(by rw [hw]; exact (by (with_reducible repeat (first | apply Kd.R_alloc | apply Kd.R_drewN | apply Kd.R_drew)); exact Kd.R_mono (Kd.R_far (p := ⟨gb232, 3, none⟩) (Kd.R_far (p := ⟨gb232, 2, none⟩) (Kd.R_far (p := ⟨gb232, 1, none⟩) (Kd.R_far (p := ⟨gb232, 0, none⟩) (Kd.R_mono HO_231002.out (fun k_ hk => (⟨hk, hk.2⟩ : _ ∧ k_ ≠ gb232))) (fun _ hk => hk.2) (.int .i64 ((rd_T46 l0_2 x4_1).f0))) (fun _ hk => hk.2) (.bool ((rd_T46 l0_2 x4_1).f1))) (fun _ hk => hk.2) (.int .i64 ((rd_T46 l0_2 x4_1).f2))) (fun _ hk => hk.2) (.int .i64 ((rd_T46 l0_2 x4_1).f3))) (fun _ hk => hk.1.2)))⟩; replace BK222 : Aside0 (w27.heap[gb222]? = some (.cells #[.int .i64 a0_0, .slice A0_1 l0_1.length c0_1, .slice (some ad231) l0_2.length c0_2] 27 (0, 0))) := ⟨(by rw [hw]; exact (kF BK222))⟩; replace BK223 : Aside0 (w27.heap[gb223]? = some (.cells #[.int .i64 0, .slice none 0 0, .slice none 0 0] 27 (0, 0))) := ⟨(by rw [hw]; exact (kF BK223))⟩; replace BK230 : Aside0 (w27.heap[gb230]? = some (.cells #[.int .i64 a0_0, .slice Ao12 y227.length co12, u231002] 27 (0, 0))) := ⟨(by rw [hw]; exact (kF BK230))⟩; replace BK232 : Aside0 (w27.heap[gb232]? = some (.cells #[.int .i64 ((rd_T46 l0_2 x4_1).f0), .bool ((rd_T46 l0_2 x4_1).f1), .int .i64 ((rd_T46 l0_2 x4_1).f2), .int .i64 ((rd_T46 l0_2 x4_1).f3)] 46 (0, 0))) := ⟨(by rw [hw]; exact (by (with_reducible repeat (first | refine blk_drewN ?_ _ | refine blk_drew ?_ | refine blk_alloc ?_ _)); refine blk_put (cs := #[.int .i64 ((rd_T46 l0_2 x4_1).f0), .bool ((rd_T46 l0_2 x4_1).f1), .int .i64 ((rd_T46 l0_2 x4_1).f2), .int .i64 0]) ?_ 3 _ rfl; (with_reducible repeat (first | refine blk_drewN ?_ _ | refine blk_drew ?_ | refine blk_alloc ?_ _)); refine blk_put (cs := #[.int .i64 ((rd_T46 l0_2 x4_1).f0), .bool ((rd_T46 l0_2 x4_1).f1), .int .i64 0, .int .i64 0]) ?_ 2 _ rfl; (with_reducible repeat (first | refine blk_drewN ?_ _ | refine blk_drew ?_ | refine blk_alloc ?_ _)); refine blk_put (cs := #[.int .i64 ((rd_T46 l0_2 x4_1).f0), .bool false, .int .i64 0, .int .i64 0]) ?_ 1 _ rfl; (with_reducible repeat (first | refine blk_drewN ?_ _ | refine blk_drew ?_ | refine blk_alloc ?_ _)); refine blk_put (cs := #[.int .i64 0, .bool false, .int .i64 0, .int .i64 0]) ?_ 0 _ rfl; (with_reducible repeat (first | refine blk_drewN ?_ _ | refine blk_drew ?_ | refine blk_alloc ?_ _)); exact BK232.out))⟩; replace HB : Aside0 (Below w.heap.size w w27) := ⟨(by rw [hw]; exact (zB HB))⟩; clear hw; obtain ⟨hcz28_0, hcz28_1, hcz28_2, hcz28_3, hfz28_0, hfz28_1, hfz28_2, hfz28_3⟩ := bq4 BK232) | ((with_reducible refine gate_store (t := 4) (p := 28) rfl ?_); refine store_event (t := 4) (p := 28) (v := ?vo_w29) (w1 := (w27.setCell ⟨gb232, 1, none⟩ (.bool (!((rd_T46 l0_2 x4_1).f1))))) ?hg ?ho ?hn ?hr ?_; (case ho => rfl); (case hg => rfl); (case hn => rfl); (case hr => first | (go_simp; done) | (go_simp; rfl)); intro w29 hw; replace HO_231001 : Aside0 (Kd.R Kd.bool 4 w29 w.heap.size (fun _ => True) (.slice Ao12 y227.length co12) y227) := ⟨(by rw [hw]; exact (Kd.R_mono (rB HO_231001 BK232) (fun _ hk => trivial)))⟩; replace HO_231002 : Aside0 (Kd.R k46 46 w29 w.heap.size (fun k_ => k_ ≠ gb232) u231002 x231002_1) := ⟨(by rw [hw]; exact (by (with_reducible repeat (first | apply Kd.R_alloc | apply Kd.R_drewN | apply Kd.R_drew)); exact Kd.R_mono (Kd.R_far (p := ⟨gb232, 1, none⟩) (Kd.R_mono HO_231002.out (fun k_ hk => (⟨hk, hk⟩ : _ ∧ k_ ≠ gb232))) (fun _ hk => hk.2) (.bool (!((rd_T46 l0_2 x4_1).f1)))) (fun _ hk => hk.1)))⟩; replace BK222 : Aside0 (w29.heap[gb222]? = some (.cells #[.int .i64 a0_0, .slice A0_1 l0_1.length c0_1, .slice (some ad231) l0_2.length c0_2] 27 (0, 0))) := ⟨(by rw [hw]; exact (kF BK222))⟩; replace BK223 : Aside0 (w29.heap[gb223]? = some (.cells #[.int .i64 0, .slice none 0 0, .slice none 0 0] 27 (0, 0))) := ⟨(by rw [hw]; exact (kF BK223))⟩; replace BK230 : Aside0 (w29.heap[gb230]? = some (.cells #[.int .i64 a0_0, .slice Ao12 y227.length co12, u231002] 27 (0, 0))) := ⟨(by rw [hw]; exact (kF BK230))⟩; replace BK232 : Aside0 (w29.heap[gb232]? = some (.cells #[.int .i64 ((rd_T46 l0_2 x4_1).f0), .bool (!((rd_T46 l0_2 x4_1).f1)), .int .i64 ((rd_T46 l0_2 x4_1).f2), .int .i64 ((rd_T46 l0_2 x4_1).f3)] 46 (0, 0))) := ⟨(by rw [hw]; exact (by (with_reducible repeat (first | refine blk_drewN ?_ _ | refine blk_drew ?_ | refine blk_alloc ?_ _)); refine blk_put (cs := #[.int .i64 ((rd_T46 l0_2 x4_1).f0), .bool ((rd_T46 l0_2 x4_1).f1), .int .i64 ((rd_T46 l0_2 x4_1).f2), .int .i64 ((rd_T46 l0_2 x4_1).f3)]) ?_ 1 _ rfl; (with_reducible repeat (first | refine blk_drewN ?_ _ | refine blk_drew ?_ | refine blk_alloc ?_ _)); exact BK232.out))⟩; replace HB : Aside0 (Below w.heap.size w w29) := ⟨(by rw [hw]; exact (zB HB))⟩; clear hw; have hnb30 := NB230_223.out; have hnc30 := NB223_230.out; obtain ⟨hcz31_0, hcz31_1, hcz31_2, hfz31_0, hfz31_1, hfz31_2⟩ := bq3 BK230; obtain ⟨hcz32_0, hcz32_1, hcz32_2, hcz32_3, hfz32_0, hfz32_1, hfz32_2, hfz32_3⟩ := bq4 BK232) | ((with_reducible refine gate_builtin (b := .append) (xs := #[.tmp 30, .tmp 32]) rfl ?_); at_builtin; refine Kd.R_append k46 (w0 := w) w.heap.size rfl (.tmp 30) (.tmp 32) 25 46 (.agg #[(.int .i64 0), (.bool false), (.int .i64 0), (.int .i64 0)]) 32 rfl Try.underlying25 info46 rfl (by decide) (by omega) u231002 x231002_1 (⟨(rd_T46 l0_2 x4_1).f0, !((rd_T46 l0_2 x4_1).f1), (rd_T46 l0_2 x4_1).f2, (rd_T46 l0_2 x4_1).f3⟩ : S46) [.int .i64 ((rd_T46 l0_2 x4_1).f0), .bool (!((rd_T46 l0_2 x4_1).f1)), .int .i64 ((rd_T46 l0_2 x4_1).f2), .int .i64 ((rd_T46 l0_2 x4_1).f3)] (fun k_ => k_ ≠ gb232) (fun _ => False) rfl rfl ?aP (fun _ hk => hk.elim) ?aF ?aO ?aB ?aS ?aL ?_; (case aP => exact k46_mkM _ _ _ (⟨(rd_T46 l0_2 x4_1).f0, !((rd_T46 l0_2 x4_1).f1), (rd_T46 l0_2 x4_1).f2, (rd_T46 l0_2 x4_1).f3⟩ : S46)); (case aB => exact (zB HB)); (case aF => exact (fun k_ hk => Kd.freshB (g := gb232) (o := .cells #[.int .i64 ((rd_T46 l0_2 x4_1).f0), .bool (!((rd_T46 l0_2 x4_1).f1)), .int .i64 ((rd_T46 l0_2 x4_1).f2), .int .i64 ((rd_T46 l0_2 x4_1).f3)] 46 (0, 0)) (zK BK232) k_ hk)); (case aO => exact (zR HO_231002)); (case aS => exact (below_size (zB HB))); (case aL => have := LMc18.out; omega); intro v234 w33 ho hb hg hat; rw [← Ny233.out] at ho; replace HO_231001 := Aside0.mk (Kd.R_over' (zR HO_231001) (Kd.R_typed (zR HO_231002)) (by decide) hg); replace BK222 := Aside0.mk (blk_grown (g := gb222) (o := .cells #[.int .i64 a0_0, .slice A0_1 l0_1.length c0_1, .slice (some ad231) l0_2.length c0_2] 27 (0, 0)) (zK BK222) hg (Kd.R_ne HO_231002.out BK222.out (by decide))); replace BK223 := Aside0.mk (blk_grown (g := gb223) (o := .cells #[.int .i64 0, .slice none 0 0, .slice none 0 0] 27 (0, 0)) (zK BK223) hg (Kd.R_ne HO_231002.out BK223.out (by decide))); replace BK230 := Aside0.mk (blk_grown (g := gb230) (o := .cells #[.int .i64 a0_0, .slice Ao12 y227.length co12, u231002] 27 (0, 0)) (zK BK230) hg (Kd.R_ne HO_231002.out BK230.out (by decide))); replace BK232 := Aside0.mk (blk_grown (g := gb232) (o := .cells #[.int .i64 ((rd_T46 l0_2 x4_1).f0), .bool (!((rd_T46 l0_2 x4_1).f1)), .int .i64 ((rd_T46 l0_2 x4_1).f2), .int .i64 ((rd_T46 l0_2 x4_1).f3)] 46 (0, 0)) (zK BK232) hg (Kd.R_away HO_231002.out (fun _ hk => hk))); replace HB := Aside0.mk (hb); have HO235 := Aside0.mk (ho); clear HO_231002; clear ho hb hg hat; obtain ⟨Ao34, co34, eo34⟩ := Kd.R_slice HO235.out; subst eo34; obtain ⟨hcz35_0, hcz35_1, hcz35_2, hfz35_0, hfz35_1, hfz35_2⟩ := bq3 BK230))
     go_roundg k1
     case measure => have := HK1.out; omega
     case rel => exact ⟨(wrap64 (x4_1 + 1)), (y233), (.slice Ao34 y233.length co34), zF, H', ⟨by have := HK1.out; omega⟩, ⟨Kd.R_mono (rB HO_231001 BK230) (fun _ hk => trivial)⟩, ⟨Kd.R_mono (rB HO235 BK230) (fun _ hk => trivial)⟩, ⟨kF BK222⟩, ⟨kF BK223⟩, ⟨by (with_reducible repeat (first | refine blk_drewN ?_ _ | refine blk_drew ?_ | refine blk_alloc ?_ _)); refine blk_put (cs := #[.int .i64 a0_0, .slice Ao12 y227.length co12, u231002]) ?_ 2 _ rfl; (with_reducible repeat (first | refine blk_drewN ?_ _ | refine blk_drew ?_ | refine blk_alloc ?_ _)); exact BK230.out⟩, ⟨zB HB⟩⟩
    ·rw [if_neg c16] at H
     have c16b0 : decide (x4_1 < (l0_2.length : Int)) = false := decide_eq_false c16
     clear c16
     simp only [Option.some.injEq, Prod.mk.injEq] at H
     obtain ⟨rfl, rfl, rfl⟩ := H
     have hnb36 := NB222_223.out
     have hnc36 := NB223_222.out
     have hnb37 := NB222_230.out
     have hnc37 := NB230_222.out
     obtain ⟨hcz38_0, hcz38_1, hcz38_2, hfz38_0, hfz38_1, hfz38_2⟩ := bq3 BK222
     have hnb39 := NB230_223.out
     have hnc39 := NB223_230.out
     obtain ⟨hcz40_0, hcz40_1, hcz40_2, hfz40_0, hfz40_1, hfz40_2⟩ := bq3 BK230
     obtain ⟨hcz41_0, hcz41_1, hcz41_2, hfz41_0, hfz41_1, hfz41_2⟩ := bq3 BK223
     obtain ⟨Ao42, co42, eo42⟩ := Kd.R_slice HO_231002.out
     subst eo42
     go_wp2
     refine bodyPost_ret (results_cell_row rfl _ _ gb223 27 #[.int .i64 a0_0, .slice Ao12 y227.length co12, .slice Ao42 x231002_1.length co42] (0, 0) _ rfl (by (with_reducible repeat (first | refine blk_drewN ?_ _ | refine blk_drew ?_ | refine blk_alloc ?_ _)); refine blk_put (cs := #[.int .i64 a0_0, .slice Ao12 y227.length co12, .slice none 0 0]) ?_ 2 _ rfl; (with_reducible repeat (first | refine blk_drewN ?_ _ | refine blk_drew ?_ | refine blk_alloc ?_ _)); refine blk_put (cs := #[.int .i64 a0_0, .slice none 0 0, .slice none 0 0]) ?_ 1 _ rfl; (with_reducible repeat (first | refine blk_drewN ?_ _ | refine blk_drew ?_ | refine blk_alloc ?_ _)); refine blk_put (cs := #[.int .i64 0, .slice none 0 0, .slice none 0 0]) ?_ 0 _ rfl; (with_reducible repeat (first | refine blk_drewN ?_ _ | refine blk_drew ?_ | refine blk_alloc ?_ _)); exact BK223.out) Try.underlying27 rfl (by kernel_rfl)) rfl ?_
     exact ⟨_, _, zE, Kd.R_mono (rB HO_231001 BK223) (fun _ hk => trivial), Kd.R_mono (rB HO_231002 BK223) (fun _ hk => trivial), zB HB⟩
 ·rw [if_neg c2] at H
  exact absurd H (by simp)

end Go.Proofs.Ytfibjclnaeocbaa.PFnChain
