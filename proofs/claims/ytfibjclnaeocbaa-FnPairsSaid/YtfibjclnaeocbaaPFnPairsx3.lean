-- WRITTEN by pp.py, this session's own wrapper around the print; not trusted: Lean checks it
import Derived.Test.YtfibjclnaeocbaaPFnPairsx0
namespace Go.Proofs.Ytfibjclnaeocbaa.PFnPairs
open Go.RowKit Go.Proofs.Ytfibjclnaeocbaa.Hw Go.Proofs.YtfibjclnaeocbaaW.PrintWords Go.Proofs.YtfibjclnaeocbaaW.PrintLast Go.Proofs.YtfibjclnaeocbaaW.PrintMore
attribute [local go_sem] max2_int min2_int max_two min_two max_three min_three max_four min_four   -- for this text's walks alone
set_option linter.unusedVariables false
set_option linter.unusedSimpArgs false
set_option linter.unusedSectionVars false

/-! ### spec_DualOf: function 49 -/
def spec_DualOf.l0 : Nat → Int → Int → List Bool → List (S46) → Int → List Bool → List (S46) → Option (Int × List Bool × (List (S46)))
 | 0, _, _, _, _, _, _, _ => none
 | k + 1, x4, x158000, x158001, x158002, x166000, x166001, x166002 => if x4 < (x158002.length : Int) then (if 0 ≤ x4 then (if x166002.length < 4398046511104 then (spec_DualOf.l0 k (wrap64 (x4 + 1)) x158000 x158001 x158002 x166000 x166001 (x166002 ++ [(⟨(rd_T46 x158002 x4).f0, !((rd_T46 x158002 x4).f1), (rd_T46 x158002 x4).f2, (rd_T46 x158002 x4).f3⟩ : S46)])) else (none)) else (none)) else (some (x166000, x166001, x166002))
def spec_DualOf.f (k : Nat) (a0_0 : Int) (l0_1 : List Bool) (l0_2 : List (S46)) : Option (Int × List Bool × (List (S46))) := (some (([] : List Bool) : List Bool)).bind fun y159 => (if y159.length + l0_1.length < 140737488355328 then (spec_DualOf.l0 k 0 a0_0 l0_1 l0_2 a0_0 (y159 ++ l0_1) ([] : List (S46))) else (none))
theorem spec_DualOf.mono_l : ∀ k, (∀ y0 y1 y2 y3 y4 y5 y6, LeO (spec_DualOf.l0 k y0 y1 y2 y3 y4 y5 y6) (spec_DualOf.l0 (k + 1) y0 y1 y2 y3 y4 y5 y6))
 | 0 => fun _ _ _ _ _ _ _ r h => by simp [spec_DualOf.l0] at h
 | k + 1 => by
  have ih0 := spec_DualOf.mono_l k
  ·intro y0 y1 y2 y3 y4 y5 y6
   unfold spec_DualOf.l0
   repeat' first
   | (with_reducible first | exact ih0 _ _ _ _ _ _ _ | exact LeO.refl _ | exact LeO.none _ | refine LeO.ite ?_ ?_ | refine LeO.bind ?_ (fun _ => ?_))
   | exact ih0 _ _ _ _ _ _ _
   | exact LeO.none _
   | refine LeO.ite ?_ ?_
   | refine LeO.bind ?_ (fun _ => ?_)
theorem spec_DualOf.mono : ∀ a0 a1 a2 k, LeO (spec_DualOf.f k a0 a1 a2) (spec_DualOf.f (k + 1) a0 a1 a2) := by
 intro a0 a1 a2 k
 have ih0 := spec_DualOf.mono_l k
 unfold spec_DualOf.f
 repeat' first
   | (with_reducible first | exact ih0 _ _ _ _ _ _ _ | exact LeO.refl _ | exact LeO.none _ | refine LeO.ite ?_ ?_ | refine LeO.bind ?_ (fun _ => ?_))
   | exact ih0 _ _ _ _ _ _ _
   | exact LeO.none _
   | refine LeO.ite ?_ ?_
   | refine LeO.bind ?_ (fun _ => ?_)
def spec_DualOf.T1 : Bool × List (List Nat × List Nat) := (true, [([], []), ([0], [0]), ([], []), ([], []), ([3], [3]), ([2, 4], [2, 4]), ([1, 5], [1, 5]), ([], []), ([7, 6, 5, 0, 1, 2, 3, 4, 5, 6, 7], [6, 7])])
def spec_DualOf.B1 : List Nat := [0, 1, 0, 0, 8, 28, 63, 0, 255]
theorem spec_DualOf.tab1 : rtab .any (opsOf Try.f49 1) = spec_DualOf.T1 := by kernel_rfl
theorem spec_DualOf.bits1 : waitsOk spec_DualOf.T1.2 spec_DualOf.B1 = true := by kernel_rfl
set_option maxHeartbeats 8000000 in
set_option maxRecDepth 100000 in
theorem spec_DualOf.calls (k : Nat) (a0_0 : Int) (A0_1 : Option Addr) (c0_1 : Nat) (l0_1 : List Bool) (A0_2 : Option Addr) (c0_2 : Nat) (l0_2 : List (S46)) (r1 : Int) (r2 : List Bool) (r3 : List (S46)) (w : World) (hr0_1 : Kd.C Kd.bool w A0_1 l0_1.length l0_1) (hc0_1 : l0_1.length ≤ c0_1) (hr0_2 : Kd.C k46 w A0_2 l0_2.length l0_2) (hc0_2 : l0_2.length ≤ c0_2) (h : spec_DualOf.f k a0_0 l0_1 l0_2 = some (r1, r2, r3)) :
  Calls Try.prog 49 #[.agg #[.int .i64 a0_0, .slice A0_1 l0_1.length c0_1, .slice A0_2 l0_2.length c0_2]] w fun e w' => ∃ v1_ v2_ : Value, e = .returned (.agg #[.int .i64 r1, v1_, v2_]) ∧ Kd.R Kd.bool 4 w' w.heap.size (fun _ => True) v1_ r2 ∧ Kd.R k46 46 w' w.heap.size (fun _ => True) v2_ r3 ∧ Below w.heap.size w w' := by
 have hu27 := Try.underlying27
 have hu46 := Try.underlying46
 have HR0_1 := aM hr0_1
 have HC0_1 := aM hc0_1
 clear hr0_1 hc0_1
 have HR0_2 := aM hr0_2
 have HC0_2 := aM hc0_2
 clear hr0_2 hc0_2
 have HB := aM (Below.refl w.heap.size w)
 have H : ((some (([] : List Bool) : List Bool)).bind fun y159 => (if y159.length + l0_1.length < 140737488355328 then (spec_DualOf.l0 k 0 a0_0 l0_1 l0_2 a0_0 (y159 ++ l0_1) ([] : List (S46))) else (none))) = some (r1, r2, r3) := h
 clear h
 obtain ⟨y159, hy159⟩ : ∃ y_ : List Bool, y_ = (([] : List Bool)) := ⟨_, rfl⟩
 replace H : (if y159.length + l0_1.length < 140737488355328 then (spec_DualOf.l0 k 0 a0_0 l0_1 l0_2 a0_0 (y159 ++ l0_1) ([] : List (S46))) else (none)) = some (r1, r2, r3) := by first | (rw [hy159]; with_reducible exact H) | (rw [hy159]; exact H) | exact H
 have Ny159 := aM hy159
 clear hy159
 by_cases c2 : y159.length + l0_1.length < 140737488355328
 ·rw [if_pos c2] at H
  have LMc2 := aM c2
  clear c2
  obtain ⟨y162, hy162⟩ : ∃ y_ : List Bool, y_ = (y159 ++ l0_1) := ⟨_, rfl⟩
  replace H : (spec_DualOf.l0 k 0 a0_0 l0_1 l0_2 a0_0 y162 ([] : List (S46))) = some (r1, r2, r3) := by first | (rw [hy162]; with_reducible exact H) | (rw [hy162]; exact H) | exact H
  have Ny162 := aM hy162
  clear hy162
  have H' := aM H
  clear H
  go_enter Try.func49, Try.ntmps49
  try go_wp2_with (first | ((with_reducible refine gD (N := 1) rfl ?_); refine box_event ?hg (N := 1) ?hd (cs := #[.int .i64 a0_0, .slice A0_1 l0_1.length c0_1, .slice A0_2 l0_2.length c0_2]) (t := 27) ?hr ?_; (case hd => rfl); (case hg => rfl); (case hr => first | (go_simp; done) | (go_simp; rfl)); intro gb157 hg w3 hbox hb; have BK157 := aM (hbox); have GW157 := gS HB hg; have GE157 := gS HB hg; replace HB := bS HB hb; clear hb hbox hg) | ((with_reducible refine gD (N := 2) rfl ?_); refine box_event ?hg (N := 2) ?hd (cs := #[.int .i64 0, .slice none 0 0, .slice none 0 0]) (t := 27) ?hr ?_; (case hd => rfl); (case hg => rfl); (case hr => first | (go_simp; done) | (go_simp; rfl)); intro gb158 hg w4 hbox hb; have BK158 := aM (hbox); have GW158 := gS HB hg; have GE158 := gS HB hg; replace HB := bS HB hb; have NB157_158 := nL BK157 hg; have NB158_157 := nR BK157 hg; replace BK157 := kB BK157 hb; clear hb hbox hg))
  replace BK157 := aM (bD BK157.o)
  replace BK158 := aM (bD BK158.o)
  replace HB := aM (below_drew1 HB.o)
  refine start_ (n := 9) (S := fun w' => w'.cell? ⟨gb157, 0, none⟩ = some (.int .i64 a0_0) ∧ w'.cell? ⟨gb157, 1, none⟩ = some (.slice A0_1 l0_1.length c0_1) ∧ w'.cell? ⟨gb157, 2, none⟩ = some (.slice A0_2 l0_2.length c0_2)) (ds := []) (bm 9 0) (by kernel_rfl) rfl (bm0 _) ⟨bc0 BK157, bc1 BK157, bc2 BK157⟩ (fun hK4 => ?_); refine with_tabW spec_DualOf.tab1 spec_DualOf.bits1 (fun HT_ HW_ => ?_)
  generalize w4.drew = w5 at BK157 BK158 HB hK4 ⊢
  refine pW 0 6 9 1 HT_ rfl rfl ?_
  refine pW 3 9 9 9 HT_ rfl rfl ?_
  refine tW 1 7 9 11 HT_ HW_ rfl rfl hK4 ?_
  refine tW 4 10 9 27 HT_ HW_ rfl rfl hK4 ?_
  refine join_ (σ := Value × Value × Nat) 1 (bm 9 255) (fun s_ => [(8, s_.1), (11, s_.2.1), (3, .pointer (some ⟨s_.2.2, 0, none⟩)), (12, .agg #[.int .i64 a0_0, s_.2.1, .slice none 0 0])]) (fun s_ w' => (w'.cell? ⟨gb157, 0, none⟩ = some (.int .i64 a0_0) ∧ w'.cell? ⟨gb157, 1, none⟩ = some (.slice A0_1 l0_1.length c0_1) ∧ w'.cell? ⟨gb157, 2, none⟩ = some (.slice A0_2 l0_2.length c0_2)) ∧ (Kd.R Kd.bool 4 w' w.heap.size (fun _ => True) s_.2.1 y162) ∧ (w'.heap[gb157]? = some (.cells #[.int .i64 a0_0, .slice A0_1 l0_1.length c0_1, .slice A0_2 l0_2.length c0_2] 27 (0, 0))) ∧ (w'.heap[gb158]? = some (.cells #[.int .i64 0, .slice none 0 0, .slice none 0 0] 27 (0, 0))) ∧ (w'.heap[s_.2.2]? = some (.cells #[.int .i64 0, .slice none 0 0, .slice none 0 0] 27 (0, 0))) ∧ (w.heap.size ≤ s_.2.2) ∧ (w.heap.size ≤ s_.2.2) ∧ (gb157 ≠ s_.2.2) ∧ (s_.2.2 ≠ gb157) ∧ (gb158 ≠ s_.2.2) ∧ (s_.2.2 ≠ gb158) ∧ (Below w.heap.size w w')) ?_ ?_
  rotate_left
  ·intro hCont
   refine two_ (i := 2) (j := 7) (Ni := some 8) (Nj := some 3) (bm 9 31) (bm 9 155) rfl rfl rfl rfl (two_of HT_.o (by kernel_rfl)) (by decide) (by decide) (fun K hK => ?_) (fun K hK => ?_)
   ·skip
    refine Kd.R_lit_step Kd.bool _ 4 ?hg (N := 8) ?hd (xs := ([] : List Bool)) (inner := []) (ok := fun _ => True) (okp := fun _ => True) ?hr ?hp (fun _ hk => hk) trivial (Below.refl _ _) (Nat.le_refl _) (by simp) ?_; (case hd => rfl); (case hg => rfl); (case hr => first | (go_simp; done) | (go_simp; rfl)); (case hp => exact (Reps.none _ _))
    intro v160 w6 ho7 hb hg_ hnew_
    clear hg_ hnew_
    (first | rw [← Ny159.o] at ho7 | (simp only [Int.reduceToNat] at ho7; rw [← Ny159.o] at ho7))
    have HO161 := aM (rO ho7 (bZ (zB HB)))
    replace BK157 := kB BK157 hb
    replace BK158 := kB BK158 hb
    replace HB := bS HB hb
    clear hb ho7
    refine hK.out _ _ ⟨bc0 BK157, bc1 BK157, bc2 BK157⟩ (fun hK4 => ?_)
    clear hK K
    refine nU 8 ?_
    refine two_ (i := 5) (j := 7) (Ni := some 11) (Nj := some 3) (bm 9 63) (bm 9 159) rfl rfl rfl rfl (two_of HT_.o (by kernel_rfl)) (by decide) (by decide) (fun K hK => ?_) (fun K hK => ?_)
    ·skip
     refine Kd.R_append_rows_step Kd.bool (w0 := w) w.heap.size (by rfl) (.tmp 8) (.tmp 10) 24 4 (.bool false) 1 rfl Try.underlying24 info4 rfl (by decide) (by omega) v160 y159 l0_1 _ _ _ (fun _ => True) (fun _ => False) rfl rfl ?aO ?aR (fun _ _ h => h) (fun _ h => h.elim) ?aF ?aB ?aS ?aL ?_
     (case aR => repeat (first | exact (Kd.C_below HR0_1.o HB.o) | (with_reducible refine qA ?_ _) | (with_reducible refine qN ?_ _) | (with_reducible refine qD ?_)))
     (case aB => exact (zB HB))
     (case aF => exact (fun _ _ => trivial))
     (case aO => exact (zR HO161))
     (case aS => exact (bZ (zB HB)))
     (case aL => have := LMc2.o; omega)
     intro v163 w8 ho hb hg hat
     rw [← Ny162.o] at ho
     replace BK157 := aM (blk_grown (g := gb157) (o := .cells #[.int .i64 a0_0, .slice A0_1 l0_1.length c0_1, .slice A0_2 l0_2.length c0_2] 27 (0, 0)) (zK BK157) hg (Kd.R_ne HO161.o BK157.o (by decide)))
     replace BK158 := aM (blk_grown (g := gb158) (o := .cells #[.int .i64 0, .slice none 0 0, .slice none 0 0] 27 (0, 0)) (zK BK158) hg (Kd.R_ne HO161.o BK158.o (by decide)))
     replace HB := aM (hb)
     have HO164 := aM (ho)
     clear HO161
     clear ho hb hg hat
     obtain ⟨Ao9, co9, eo9⟩ := rL HO164.o
     (first | subst eo9 | (obtain ⟨f4_, f5_⟩ := slI eo9; subst f4_; subst f5_))
     refine hK.out _ _ ⟨bc0 BK157, bc1 BK157, bc2 BK157⟩ (fun hK4 => ?_)
     clear hK K
     refine nU 11 ?_
     refine pW 6 12 9 127 HT_ rfl rfl ?_
     refine one_ (i := 7) (N := some 3) (bm 9 255) rfl rfl (one_of HT_.o (by kernel_rfl)) (by decide) (fun K hK => ?_)
     refine box_step ?hg (N := 3) ?hd (cs := #[.int .i64 0, .slice none 0 0, .slice none 0 0]) (t := 27) ?hr ?_; (case hd => rfl); (case hg => rfl); (case hr => first | (go_simp; done) | (go_simp; rfl))
     intro gb165 hg w10 hbox hb
     replace HO164 := aM (rW (zR HO164) hb)
     have BK165 := aM (hbox)
     have GW165 := gS HB hg
     have GE165 := gS HB hg
     replace HB := bS HB hb
     have NB157_165 := nL BK157 hg
     have NB165_157 := nR BK157 hg
     replace BK157 := kB BK157 hb
     have NB158_165 := nL BK158 hg
     have NB165_158 := nR BK158 hg
     replace BK158 := kB BK158 hb
     clear hb hbox hg
     refine hK.out _ _ ⟨bc0 BK157, bc1 BK157, bc2 BK157⟩ (fun hK4 => ?_)
     clear hK K
     refine nU 3 ?_
     exact norm_ (by simp only [putAll, Act.put, lA, lB, lC]) (hCont (v160, .slice Ao9 y162.length co9, gb165) _ ⟨hK4, (zR HO164), (zK BK157), (zK BK158), (zK BK165), GW165.o, GE165.o, NB157_165.o, NB165_157.o, NB158_165.o, NB165_158.o, (zB HB)⟩)
    ·skip
     refine box_step ?hg (N := 3) ?hd (cs := #[.int .i64 0, .slice none 0 0, .slice none 0 0]) (t := 27) ?hr ?_; (case hd => rfl); (case hg => rfl); (case hr => first | (go_simp; done) | (go_simp; rfl))
     intro gb165 hg w8 hbox hb
     replace HO161 := aM (rW (zR HO161) hb)
     have BK165 := aM (hbox)
     have GW165 := gS HB hg
     have GE165 := gS HB hg
     replace HB := bS HB hb
     have NB157_165 := nL BK157 hg
     have NB165_157 := nR BK157 hg
     replace BK157 := kB BK157 hb
     have NB158_165 := nL BK158 hg
     have NB165_158 := nR BK158 hg
     replace BK158 := kB BK158 hb
     clear hb hbox hg
     refine hK.out _ _ ⟨bc0 BK157, bc1 BK157, bc2 BK157⟩ (fun hK4 => ?_)
     clear hK K
     refine nU 3 ?_
     refine one_ (i := 5) (N := some 11) (bm 9 191) rfl rfl (one_of HT_.o (by kernel_rfl)) (by decide) (fun K hK => ?_)
     refine Kd.R_append_rows_step Kd.bool (w0 := w) w.heap.size (by rfl) (.tmp 8) (.tmp 10) 24 4 (.bool false) 1 rfl Try.underlying24 info4 rfl (by decide) (by omega) v160 y159 l0_1 _ _ _ (fun _ => True) (fun _ => False) rfl rfl ?aO ?aR (fun _ _ h => h) (fun _ h => h.elim) ?aF ?aB ?aS ?aL ?_
     (case aR => repeat (first | exact (Kd.C_below HR0_1.o HB.o) | (with_reducible refine qA ?_ _) | (with_reducible refine qN ?_ _) | (with_reducible refine qD ?_)))
     (case aB => exact (zB HB))
     (case aF => exact (fun _ _ => trivial))
     (case aO => exact (zR HO161))
     (case aS => exact (bZ (zB HB)))
     (case aL => have := LMc2.o; omega)
     intro v163 w9 ho hb hg hat
     rw [← Ny162.o] at ho
     replace BK157 := aM (blk_grown (g := gb157) (o := .cells #[.int .i64 a0_0, .slice A0_1 l0_1.length c0_1, .slice A0_2 l0_2.length c0_2] 27 (0, 0)) (zK BK157) hg (Kd.R_ne HO161.o BK157.o (by decide)))
     replace BK158 := aM (blk_grown (g := gb158) (o := .cells #[.int .i64 0, .slice none 0 0, .slice none 0 0] 27 (0, 0)) (zK BK158) hg (Kd.R_ne HO161.o BK158.o (by decide)))
     replace BK165 := aM (blk_grown (g := gb165) (o := .cells #[.int .i64 0, .slice none 0 0, .slice none 0 0] 27 (0, 0)) (zK BK165) hg (Kd.R_ne HO161.o BK165.o (by decide)))
     replace HB := aM (hb)
     have HO164 := aM (ho)
     clear HO161
     clear ho hb hg hat
     obtain ⟨Ao10, co10, eo10⟩ := rL HO164.o
     (first | subst eo10 | (obtain ⟨f4_, f5_⟩ := slI eo10; subst f4_; subst f5_))
     refine hK.out _ _ ⟨bc0 BK157, bc1 BK157, bc2 BK157⟩ (fun hK4 => ?_)
     clear hK K
     refine nU 11 ?_
     refine pW 6 12 9 255 HT_ rfl rfl ?_
     exact norm_ (by simp only [putAll, Act.put, lA, lB, lC]) (hCont (v160, .slice Ao10 y162.length co10, gb165) _ ⟨hK4, (zR HO164), (zK BK157), (zK BK158), (zK BK165), GW165.o, GE165.o, NB157_165.o, NB165_157.o, NB158_165.o, NB165_158.o, (zB HB)⟩)
   ·skip
    refine box_step ?hg (N := 3) ?hd (cs := #[.int .i64 0, .slice none 0 0, .slice none 0 0]) (t := 27) ?hr ?_; (case hd => rfl); (case hg => rfl); (case hr => first | (go_simp; done) | (go_simp; rfl))
    intro gb165 hg w6 hbox hb
    have BK165 := aM (hbox)
    have GW165 := gS HB hg
    have GE165 := gS HB hg
    replace HB := bS HB hb
    have NB157_165 := nL BK157 hg
    have NB165_157 := nR BK157 hg
    replace BK157 := kB BK157 hb
    have NB158_165 := nL BK158 hg
    have NB165_158 := nR BK158 hg
    replace BK158 := kB BK158 hb
    clear hb hbox hg
    refine hK.out _ _ ⟨bc0 BK157, bc1 BK157, bc2 BK157⟩ (fun hK4 => ?_)
    clear hK K
    refine nU 3 ?_
    refine one_ (i := 2) (N := some 8) (bm 9 159) rfl rfl (one_of HT_.o (by kernel_rfl)) (by decide) (fun K hK => ?_)
    refine Kd.R_lit_step Kd.bool _ 4 ?hg (N := 8) ?hd (xs := ([] : List Bool)) (inner := []) (ok := fun _ => True) (okp := fun _ => True) ?hr ?hp (fun _ hk => hk) trivial (Below.refl _ _) (Nat.le_refl _) (by simp) ?_; (case hd => rfl); (case hg => rfl); (case hr => first | (go_simp; done) | (go_simp; rfl)); (case hp => exact (Reps.none _ _))
    intro v160 w7 ho8 hb hg_ hnew_
    clear hg_ hnew_
    (first | rw [← Ny159.o] at ho8 | (simp only [Int.reduceToNat] at ho8; rw [← Ny159.o] at ho8))
    have HO161 := aM (rO ho8 (bZ (zB HB)))
    replace BK157 := kB BK157 hb
    replace BK158 := kB BK158 hb
    replace BK165 := kB BK165 hb
    replace HB := bS HB hb
    clear hb ho8
    refine hK.out _ _ ⟨bc0 BK157, bc1 BK157, bc2 BK157⟩ (fun hK4 => ?_)
    clear hK K
    refine nU 8 ?_
    refine one_ (i := 5) (N := some 11) (bm 9 191) rfl rfl (one_of HT_.o (by kernel_rfl)) (by decide) (fun K hK => ?_)
    refine Kd.R_append_rows_step Kd.bool (w0 := w) w.heap.size (by rfl) (.tmp 8) (.tmp 10) 24 4 (.bool false) 1 rfl Try.underlying24 info4 rfl (by decide) (by omega) v160 y159 l0_1 _ _ _ (fun _ => True) (fun _ => False) rfl rfl ?aO ?aR (fun _ _ h => h) (fun _ h => h.elim) ?aF ?aB ?aS ?aL ?_
    (case aR => repeat (first | exact (Kd.C_below HR0_1.o HB.o) | (with_reducible refine qA ?_ _) | (with_reducible refine qN ?_ _) | (with_reducible refine qD ?_)))
    (case aB => exact (zB HB))
    (case aF => exact (fun _ _ => trivial))
    (case aO => exact (zR HO161))
    (case aS => exact (bZ (zB HB)))
    (case aL => have := LMc2.o; omega)
    intro v163 w9 ho hb hg hat
    rw [← Ny162.o] at ho
    replace BK157 := aM (blk_grown (g := gb157) (o := .cells #[.int .i64 a0_0, .slice A0_1 l0_1.length c0_1, .slice A0_2 l0_2.length c0_2] 27 (0, 0)) (zK BK157) hg (Kd.R_ne HO161.o BK157.o (by decide)))
    replace BK158 := aM (blk_grown (g := gb158) (o := .cells #[.int .i64 0, .slice none 0 0, .slice none 0 0] 27 (0, 0)) (zK BK158) hg (Kd.R_ne HO161.o BK158.o (by decide)))
    replace BK165 := aM (blk_grown (g := gb165) (o := .cells #[.int .i64 0, .slice none 0 0, .slice none 0 0] 27 (0, 0)) (zK BK165) hg (Kd.R_ne HO161.o BK165.o (by decide)))
    replace HB := aM (hb)
    have HO164 := aM (ho)
    clear HO161
    clear ho hb hg hat
    obtain ⟨Ao10, co10, eo10⟩ := rL HO164.o
    (first | subst eo10 | (obtain ⟨f4_, f5_⟩ := slI eo10; subst f4_; subst f5_))
    refine hK.out _ _ ⟨bc0 BK157, bc1 BK157, bc2 BK157⟩ (fun hK4 => ?_)
    clear hK K
    refine nU 11 ?_
    refine pW 6 12 9 255 HT_ rfl rfl ?_
    exact norm_ (by simp only [putAll, Act.put, lA, lB, lC]) (hCont (v160, .slice Ao10 y162.length co10, gb165) _ ⟨hK4, (zR HO164), (zK BK157), (zK BK158), (zK BK165), GW165.o, GE165.o, NB157_165.o, NB165_157.o, NB158_165.o, NB165_158.o, (zB HB)⟩)
  rintro ⟨v160, v163, gb165⟩ w11 ⟨hS_, h0_, h1_, h2_, h3_, h4_, h5_, h6_, h7_, h8_, h9_, h10_⟩
  have HO164 : Aside0 (Kd.R Kd.bool 4 w11 w.heap.size (fun _ => True) v163 y162) := ⟨h0_⟩
  replace BK157 : Aside0 (w11.heap[gb157]? = some (.cells #[.int .i64 a0_0, .slice A0_1 l0_1.length c0_1, .slice A0_2 l0_2.length c0_2] 27 (0, 0))) := ⟨h1_⟩
  replace BK158 : Aside0 (w11.heap[gb158]? = some (.cells #[.int .i64 0, .slice none 0 0, .slice none 0 0] 27 (0, 0))) := ⟨h2_⟩
  have BK165 : Aside0 (w11.heap[gb165]? = some (.cells #[.int .i64 0, .slice none 0 0, .slice none 0 0] 27 (0, 0))) := ⟨h3_⟩
  have GW165 : Aside0 (w.heap.size ≤ gb165) := ⟨h4_⟩
  have GE165 : Aside0 (w.heap.size ≤ gb165) := ⟨h5_⟩
  have NB157_165 : Aside0 (gb157 ≠ gb165) := ⟨h6_⟩
  have NB165_157 : Aside0 (gb165 ≠ gb157) := ⟨h7_⟩
  have NB158_165 : Aside0 (gb158 ≠ gb165) := ⟨h8_⟩
  have NB165_158 : Aside0 (gb165 ≠ gb158) := ⟨h9_⟩
  replace HB : Aside0 (Below w.heap.size w w11) := ⟨h10_⟩
  clear h0_ h1_ h2_ h3_ h4_ h5_ h6_ h7_ h8_ h9_ h10_
  have hK4 : w11.cell? ⟨gb157, 0, none⟩ = some (.int .i64 a0_0) ∧ w11.cell? ⟨gb157, 1, none⟩ = some (.slice A0_1 l0_1.length c0_1) ∧ w11.cell? ⟨gb157, 2, none⟩ = some (.slice A0_2 l0_2.length c0_2) := hS_
  obtain ⟨Ao12, co12, eo12⟩ := rL HO164.o
  (first | subst eo12 | (obtain ⟨f4_, f5_⟩ := slI eo12; subst f4_; subst f5_))
  refine norm_ (a' := ?_) ?_ ?_
  rotate_left
  ·simp only [putAll, Act.put, lA, lB, lC]
   rfl
  refine one_ (i := 8) (N := none) (bm 9 511) rfl rfl (one_of HT_.o (by kernel_rfl)) (by decide) (fun K hK => ?_)
  have hs13 : w11.cell? ⟨gb165, 0, none⟩ = some (.int .i64 0) := bc0 BK165
  have hfs13 := bf BK165 0
  have hns13_0 := NB157_165.o
  have hns13_1 := NB158_165.o
  have hms13_0 := NB165_157.o
  have hms13_1 := NB165_158.o
  have hs14 : w11.cell? ⟨gb165, 1, none⟩ = some (.slice none 0 0) := bc1 BK165
  have hfs14 := bf BK165 1
  have hns14_0 := NB157_165.o
  have hns14_1 := NB158_165.o
  have hms14_0 := NB165_157.o
  have hms14_1 := NB165_158.o
  have hs15 : w11.cell? ⟨gb165, 2, none⟩ = some (.slice none 0 0) := bc2 BK165
  have hfs15 := bf BK165 2
  have hns15_0 := NB157_165.o
  have hns15_1 := NB158_165.o
  have hms15_0 := NB165_157.o
  have hms15_1 := NB165_158.o
  refine skip_ (w1 := ?_) (by rfl) rfl ?_ ?_
  rotate_left
  ·go_simp
   rfl
  refine hK.out _ _ ⟨((cF (p := ⟨gb165, _, none⟩) NB157_165.o _).trans (((cF (p := ⟨gb165, _, none⟩) NB157_165.o _).trans (((cF (p := ⟨gb165, _, none⟩) NB157_165.o _).trans (hK4.1)))))), ((cF (p := ⟨gb165, _, none⟩) NB157_165.o _).trans (((cF (p := ⟨gb165, _, none⟩) NB157_165.o _).trans (((cF (p := ⟨gb165, _, none⟩) NB157_165.o _).trans (hK4.2.1)))))), ((cF (p := ⟨gb165, _, none⟩) NB157_165.o _).trans (((cF (p := ⟨gb165, _, none⟩) NB157_165.o _).trans (((cF (p := ⟨gb165, _, none⟩) NB157_165.o _).trans (hK4.2.2))))))⟩ (fun hK4 => ?_)
  clear hK K
  refine done_ (done_of HT_.o (by kernel_rfl)) ?_
  try clear hK4
  try go_wp2
  go_loopg [4] k (fun kq v4 w' => ∃ (x4_1 : Int) (x166002_1 : List (S46)) (u166002 : Value), v4 = .int .i64 x4_1 ∧ Aside0 (spec_DualOf.l0 kq x4_1 a0_0 l0_1 l0_2 a0_0 y162 x166002_1 = some (r1, r2, r3)) ∧ Aside0 (kq ≤ k) ∧ Aside0 (Kd.R Kd.bool 4 w' w.heap.size (fun _ => True) (.slice Ao12 y162.length co12) y162) ∧ Aside0 (Kd.R k46 46 w' w.heap.size (fun _ => True) u166002 x166002_1) ∧ Aside0 (w'.heap[gb157]? = some (.cells #[.int .i64 a0_0, (.slice A0_1 l0_1.length c0_1), (.slice A0_2 l0_2.length c0_2)] 27 (0, 0))) ∧ Aside0 (w'.heap[gb158]? = some (.cells #[.int .i64 0, (.slice none 0 0), (.slice none 0 0)] 27 (0, 0))) ∧ Aside0 (w'.heap[gb165]? = some (.cells #[.int .i64 a0_0, (.slice Ao12 y162.length co12), u166002] 27 (0, 0))) ∧ Aside0 (Below w.heap.size w w'))
  case atStart => exact ⟨(0), (([] : List (S46))), (.slice none 0 0), zF, H', ⟨Nat.le_refl _⟩, ⟨rM (rB HO164 BK165) (fun _ hk => trivial)⟩, ⟨by first | exact Kd.R_nil _ _ _ _ _ | exact Kd.N_nil _ _ _ _ _ | exact Kd.V_nil _ _ _ _ _ | exact Kd.Q_nil _ _ _ _ _ | exact Kd.S_nil _ _ _ _ _⟩, ⟨kF BK157⟩, ⟨kF BK158⟩, ⟨by (with_reducible repeat (first | apply bN | apply bD | apply bA)); refine bP (cs := #[.int .i64 a0_0, .slice Ao12 y162.length co12, .slice none 0 0]) ?_ 2 _ rfl; (with_reducible repeat (first | apply bN | apply bD | apply bA)); refine bP (cs := #[.int .i64 a0_0, .slice none 0 0, .slice none 0 0]) ?_ 1 _ rfl; (with_reducible repeat (first | apply bN | apply bD | apply bA)); refine bP (cs := #[.int .i64 0, .slice none 0 0, .slice none 0 0]) ?_ 0 _ rfl; (with_reducible repeat (first | apply bN | apply bD | apply bA)); exact BK165.o⟩, ⟨zB HB⟩⟩
  case round =>
   clear H'
   try clear c2
   try clear p2
   try clear c4
   obtain ⟨x4_1, x166002_1, u166002, rfl, HA, HK1, HO_166001, HO_166002, BK157, BK158, BK165, HB⟩ := hrel
   cases gk with
   | zero => exact absurd HA.o (by simp [spec_DualOf.l0])
   | succ k1 =>
    have H := HA.o
    clear HA
    simp only [spec_DualOf.l0] at H
    by_cases c16 : x4_1 < (l0_2.length : Int)
    ·rw [if_pos c16] at H
     have c16b0 : decide (x4_1 < (l0_2.length : Int)) = true := dT c16
     clear c16
     obtain ⟨c17, H⟩ := ifS H
     have c17b0 : decide (0 ≤ x4_1) = true := dT c17
     clear c17
     obtain ⟨c18, H⟩ := ifS H
     have LMc18 := aM c18
     clear c18
     obtain ⟨y168, hy168⟩ : ∃ y_ : List (S46), y_ = (x166002_1 ++ [(⟨(rd_T46 l0_2 x4_1).f0, !((rd_T46 l0_2 x4_1).f1), (rd_T46 l0_2 x4_1).f2, (rd_T46 l0_2 x4_1).f3⟩ : S46)]) := ⟨_, rfl⟩
     replace H : (spec_DualOf.l0 k1 (wrap64 (x4_1 + 1)) a0_0 l0_1 l0_2 a0_0 y162 y168) = some (r1, r2, r3) := by first | (rw [hy168]; with_reducible exact H) | (rw [hy168]; exact H) | exact H
     have Ny168 := aM hy168
     clear hy168
     have H' := aM H
     clear H
     have hnb19 := NB157_158.o
     have hnc19 := NB158_157.o
     have hnb20 := NB157_165.o
     have hnc20 := NB165_157.o
     obtain ⟨z21_0, z21_1, z21_2, f21_0, f21_1, f21_2⟩ := bq3 BK157
     have p166 : 0 ≤ (x4_1 : Int) := zD
     have q166 : x4_1 < (l0_2.length : Int) := zD
     obtain ⟨ad166, e166, hx166_0, hx166_1, hx166_2, hx166_3⟩ := at_T46 HR0_2.o x4_1 p166 q166
     cases e166
     replace hx166_0 := hL HB hx166_0
     replace hx166_1 := hL HB hx166_1
     replace hx166_2 := hL HB hx166_2
     replace hx166_3 := hL HB hx166_3
     replace p166 := eq_true p166
     replace q166 := eq_true q166
     go_wp2_with (first | ((with_reducible refine gD (N := 5) rfl ?_); refine box_event ?hg (N := 5) ?hd (cs := #[.int .i64 0, .bool false, .int .i64 0, .int .i64 0]) (t := 46) ?hr ?_; (case hd => rfl); (case hg => rfl); (case hr => first | (go_simp; done) | (go_simp; rfl)); intro gb167 hg w22 hbox hb; replace HO_166001 := aM (rW (zR HO_166001) hb); replace HO_166002 := aM (rW (Kd.R_elderB (zR HO_166002) gb167 (Nat.le_of_eq hg.symm)) hb); have BK167 := aM (hbox); have GW167 := gS HB hg; have GE167 := gS HB hg; replace HB := bS HB hb; have NB157_167 := nL BK157 hg; have NB167_157 := nR BK157 hg; replace BK157 := kB BK157 hb; have NB158_167 := nL BK158 hg; have NB167_158 := nR BK158 hg; replace BK158 := kB BK158 hb; have NB165_167 := nL BK165 hg; have NB167_165 := nR BK165 hg; replace BK165 := kB BK165 hb; clear hb hbox hg; have hnb23 := NB167_157.o; have hnc23 := NB157_167.o; have hnb24 := NB167_158.o; have hnc24 := NB158_167.o; have hnb25 := NB167_165.o; have hnc25 := NB165_167.o; obtain ⟨z26_0, z26_1, z26_2, z26_3, f26_0, f26_1, f26_2, f26_3⟩ := bq4 BK167) | ((with_reducible refine gate_store (t := 46) (p := 5) rfl ?_); refine store_event (t := 46) (p := 5) (v := ?vo_w27) (w1 := ((((w22.setCell ⟨gb167, 0, none⟩ (.int .i64 ((rd_T46 l0_2 x4_1).f0))).setCell ⟨gb167, 1, none⟩ (.bool ((rd_T46 l0_2 x4_1).f1))).setCell ⟨gb167, 2, none⟩ (.int .i64 ((rd_T46 l0_2 x4_1).f2))).setCell ⟨gb167, 3, none⟩ (.int .i64 ((rd_T46 l0_2 x4_1).f3)))) ?hg ?ho ?hn ?hr ?_; (case ho => rfl); (case hg => rfl); (case hn => rfl); (case hr => first | (go_simp; done) | (go_simp; rfl)); intro w27 hw; replace HO_166001 : Aside0 (Kd.R Kd.bool 4 w27 w.heap.size (fun _ => True) (.slice Ao12 y162.length co12) y162) := ⟨(by rw [hw]; exact (rM (rB HO_166001 BK167) (fun _ hk => trivial)))⟩; replace HO_166002 : Aside0 (Kd.R k46 46 w27 w.heap.size (fun k_ => k_ ≠ gb167) u166002 x166002_1) := ⟨(by rw [hw]; exact (by (with_reducible repeat (first | apply rA | apply rN | apply rD)); exact rM (Kd.R_far (p := ⟨gb167, 3, none⟩) (Kd.R_far (p := ⟨gb167, 2, none⟩) (Kd.R_far (p := ⟨gb167, 1, none⟩) (Kd.R_far (p := ⟨gb167, 0, none⟩) (rM HO_166002.o (fun k_ hk => (⟨hk, hk.2⟩ : _ ∧ k_ ≠ gb167))) (fun _ hk => hk.2) (.int .i64 ((rd_T46 l0_2 x4_1).f0))) (fun _ hk => hk.2) (.bool ((rd_T46 l0_2 x4_1).f1))) (fun _ hk => hk.2) (.int .i64 ((rd_T46 l0_2 x4_1).f2))) (fun _ hk => hk.2) (.int .i64 ((rd_T46 l0_2 x4_1).f3))) (fun _ hk => hk.1.2)))⟩; replace BK157 : Aside0 (w27.heap[gb157]? = some (.cells #[.int .i64 a0_0, .slice A0_1 l0_1.length c0_1, .slice (some ad166) l0_2.length c0_2] 27 (0, 0))) := ⟨(by rw [hw]; exact (kF BK157))⟩; replace BK158 : Aside0 (w27.heap[gb158]? = some (.cells #[.int .i64 0, .slice none 0 0, .slice none 0 0] 27 (0, 0))) := ⟨(by rw [hw]; exact (kF BK158))⟩; replace BK165 : Aside0 (w27.heap[gb165]? = some (.cells #[.int .i64 a0_0, .slice Ao12 y162.length co12, u166002] 27 (0, 0))) := ⟨(by rw [hw]; exact (kF BK165))⟩; replace BK167 : Aside0 (w27.heap[gb167]? = some (.cells #[.int .i64 ((rd_T46 l0_2 x4_1).f0), .bool ((rd_T46 l0_2 x4_1).f1), .int .i64 ((rd_T46 l0_2 x4_1).f2), .int .i64 ((rd_T46 l0_2 x4_1).f3)] 46 (0, 0))) := ⟨(by rw [hw]; exact (by (with_reducible repeat (first | apply bN | apply bD | apply bA)); refine bP (cs := #[.int .i64 ((rd_T46 l0_2 x4_1).f0), .bool ((rd_T46 l0_2 x4_1).f1), .int .i64 ((rd_T46 l0_2 x4_1).f2), .int .i64 0]) ?_ 3 _ rfl; (with_reducible repeat (first | apply bN | apply bD | apply bA)); refine bP (cs := #[.int .i64 ((rd_T46 l0_2 x4_1).f0), .bool ((rd_T46 l0_2 x4_1).f1), .int .i64 0, .int .i64 0]) ?_ 2 _ rfl; (with_reducible repeat (first | apply bN | apply bD | apply bA)); refine bP (cs := #[.int .i64 ((rd_T46 l0_2 x4_1).f0), .bool false, .int .i64 0, .int .i64 0]) ?_ 1 _ rfl; (with_reducible repeat (first | apply bN | apply bD | apply bA)); refine bP (cs := #[.int .i64 0, .bool false, .int .i64 0, .int .i64 0]) ?_ 0 _ rfl; (with_reducible repeat (first | apply bN | apply bD | apply bA)); exact BK167.o))⟩; replace HB : Aside0 (Below w.heap.size w w27) := ⟨(by rw [hw]; exact (zB HB))⟩; clear hw; obtain ⟨z28_0, z28_1, z28_2, z28_3, f28_0, f28_1, f28_2, f28_3⟩ := bq4 BK167) | ((with_reducible refine gate_store (t := 4) (p := 28) rfl ?_); refine store_event (t := 4) (p := 28) (v := ?vo_w29) (w1 := (w27.setCell ⟨gb167, 1, none⟩ (.bool (!((rd_T46 l0_2 x4_1).f1))))) ?hg ?ho ?hn ?hr ?_; (case ho => rfl); (case hg => rfl); (case hn => rfl); (case hr => first | (go_simp; done) | (go_simp; rfl)); intro w29 hw; replace HO_166001 : Aside0 (Kd.R Kd.bool 4 w29 w.heap.size (fun _ => True) (.slice Ao12 y162.length co12) y162) := ⟨(by rw [hw]; exact (rM (rB HO_166001 BK167) (fun _ hk => trivial)))⟩; replace HO_166002 : Aside0 (Kd.R k46 46 w29 w.heap.size (fun k_ => k_ ≠ gb167) u166002 x166002_1) := ⟨(by rw [hw]; exact (by (with_reducible repeat (first | apply rA | apply rN | apply rD)); exact rM (Kd.R_far (p := ⟨gb167, 1, none⟩) (rM HO_166002.o (fun k_ hk => (⟨hk, hk⟩ : _ ∧ k_ ≠ gb167))) (fun _ hk => hk.2) (.bool (!((rd_T46 l0_2 x4_1).f1)))) (fun _ hk => hk.1)))⟩; replace BK157 : Aside0 (w29.heap[gb157]? = some (.cells #[.int .i64 a0_0, .slice A0_1 l0_1.length c0_1, .slice (some ad166) l0_2.length c0_2] 27 (0, 0))) := ⟨(by rw [hw]; exact (kF BK157))⟩; replace BK158 : Aside0 (w29.heap[gb158]? = some (.cells #[.int .i64 0, .slice none 0 0, .slice none 0 0] 27 (0, 0))) := ⟨(by rw [hw]; exact (kF BK158))⟩; replace BK165 : Aside0 (w29.heap[gb165]? = some (.cells #[.int .i64 a0_0, .slice Ao12 y162.length co12, u166002] 27 (0, 0))) := ⟨(by rw [hw]; exact (kF BK165))⟩; replace BK167 : Aside0 (w29.heap[gb167]? = some (.cells #[.int .i64 ((rd_T46 l0_2 x4_1).f0), .bool (!((rd_T46 l0_2 x4_1).f1)), .int .i64 ((rd_T46 l0_2 x4_1).f2), .int .i64 ((rd_T46 l0_2 x4_1).f3)] 46 (0, 0))) := ⟨(by rw [hw]; exact (by (with_reducible repeat (first | apply bN | apply bD | apply bA)); refine bP (cs := #[.int .i64 ((rd_T46 l0_2 x4_1).f0), .bool ((rd_T46 l0_2 x4_1).f1), .int .i64 ((rd_T46 l0_2 x4_1).f2), .int .i64 ((rd_T46 l0_2 x4_1).f3)]) ?_ 1 _ rfl; (with_reducible repeat (first | apply bN | apply bD | apply bA)); exact BK167.o))⟩; replace HB : Aside0 (Below w.heap.size w w29) := ⟨(by rw [hw]; exact (zB HB))⟩; clear hw; have hnb30 := NB165_158.o; have hnc30 := NB158_165.o; obtain ⟨z31_0, z31_1, z31_2, f31_0, f31_1, f31_2⟩ := bq3 BK165; obtain ⟨z32_0, z32_1, z32_2, z32_3, f32_0, f32_1, f32_2, f32_3⟩ := bq4 BK167) | ((with_reducible refine gate_builtin (b := .append) (xs := #[.tmp 30, .tmp 32]) rfl ?_); at_builtin; refine Kd.R_append k46 (w0 := w) w.heap.size rfl (.tmp 30) (.tmp 32) 25 46 (.agg #[(.int .i64 0), (.bool false), (.int .i64 0), (.int .i64 0)]) 32 rfl Try.underlying25 info46 rfl (by decide) (by omega) u166002 x166002_1 (⟨(rd_T46 l0_2 x4_1).f0, !((rd_T46 l0_2 x4_1).f1), (rd_T46 l0_2 x4_1).f2, (rd_T46 l0_2 x4_1).f3⟩ : S46) [.int .i64 ((rd_T46 l0_2 x4_1).f0), .bool (!((rd_T46 l0_2 x4_1).f1)), .int .i64 ((rd_T46 l0_2 x4_1).f2), .int .i64 ((rd_T46 l0_2 x4_1).f3)] (fun k_ => k_ ≠ gb167) (fun _ => False) rfl rfl ?aP (fun _ hk => hk.elim) ?aF ?aO ?aB ?aS ?aL ?_; (case aP => exact k46_mkM _ _ _ (⟨(rd_T46 l0_2 x4_1).f0, !((rd_T46 l0_2 x4_1).f1), (rd_T46 l0_2 x4_1).f2, (rd_T46 l0_2 x4_1).f3⟩ : S46)); (case aB => exact (zB HB)); (case aF => exact (fun k_ hk => Kd.freshB (g := gb167) (o := .cells #[.int .i64 ((rd_T46 l0_2 x4_1).f0), .bool (!((rd_T46 l0_2 x4_1).f1)), .int .i64 ((rd_T46 l0_2 x4_1).f2), .int .i64 ((rd_T46 l0_2 x4_1).f3)] 46 (0, 0)) (zK BK167) k_ hk)); (case aO => exact (zR HO_166002)); (case aS => exact (bZ (zB HB))); (case aL => have := LMc18.o; omega); intro v169 w33 ho hb hg hat; rw [← Ny168.o] at ho; replace HO_166001 := aM (Kd.R_over' (zR HO_166001) (Kd.R_typed (zR HO_166002)) (by decide) hg); replace BK157 := aM (blk_grown (g := gb157) (o := .cells #[.int .i64 a0_0, .slice A0_1 l0_1.length c0_1, .slice (some ad166) l0_2.length c0_2] 27 (0, 0)) (zK BK157) hg (Kd.R_ne HO_166002.o BK157.o (by decide))); replace BK158 := aM (blk_grown (g := gb158) (o := .cells #[.int .i64 0, .slice none 0 0, .slice none 0 0] 27 (0, 0)) (zK BK158) hg (Kd.R_ne HO_166002.o BK158.o (by decide))); replace BK165 := aM (blk_grown (g := gb165) (o := .cells #[.int .i64 a0_0, .slice Ao12 y162.length co12, u166002] 27 (0, 0)) (zK BK165) hg (Kd.R_ne HO_166002.o BK165.o (by decide))); replace BK167 := aM (blk_grown (g := gb167) (o := .cells #[.int .i64 ((rd_T46 l0_2 x4_1).f0), .bool (!((rd_T46 l0_2 x4_1).f1)), .int .i64 ((rd_T46 l0_2 x4_1).f2), .int .i64 ((rd_T46 l0_2 x4_1).f3)] 46 (0, 0)) (zK BK167) hg (Kd.R_away HO_166002.o (fun _ hk => hk))); replace HB := aM (hb); have HO170 := aM (ho); clear HO_166002; clear ho hb hg hat; obtain ⟨Ao34, co34, eo34⟩ := rL HO170.o; subst eo34; obtain ⟨z35_0, z35_1, z35_2, f35_0, f35_1, f35_2⟩ := bq3 BK165))
     go_roundg k1
     case measure => have := HK1.o; omega
     case rel => exact ⟨(wrap64 (x4_1 + 1)), (y168), (.slice Ao34 y168.length co34), zF, H', ⟨by have := HK1.o; omega⟩, ⟨rM (rB HO_166001 BK165) (fun _ hk => trivial)⟩, ⟨rM (rB HO170 BK165) (fun _ hk => trivial)⟩, ⟨kF BK157⟩, ⟨kF BK158⟩, ⟨by (with_reducible repeat (first | apply bN | apply bD | apply bA)); refine bP (cs := #[.int .i64 a0_0, .slice Ao12 y162.length co12, u166002]) ?_ 2 _ rfl; (with_reducible repeat (first | apply bN | apply bD | apply bA)); exact BK165.o⟩, ⟨zB HB⟩⟩
    ·rw [if_neg c16] at H
     have c16b0 : decide (x4_1 < (l0_2.length : Int)) = false := decide_eq_false c16
     clear c16
     simp only [Option.some.injEq, Prod.mk.injEq] at H
     obtain ⟨rfl, rfl, rfl⟩ := H
     have hnb36 := NB157_158.o
     have hnc36 := NB158_157.o
     have hnb37 := NB157_165.o
     have hnc37 := NB165_157.o
     obtain ⟨z38_0, z38_1, z38_2, f38_0, f38_1, f38_2⟩ := bq3 BK157
     have hnb39 := NB165_158.o
     have hnc39 := NB158_165.o
     obtain ⟨z40_0, z40_1, z40_2, f40_0, f40_1, f40_2⟩ := bq3 BK165
     obtain ⟨z41_0, z41_1, z41_2, f41_0, f41_1, f41_2⟩ := bq3 BK158
     obtain ⟨Ao42, co42, eo42⟩ := rL HO_166002.o
     subst eo42
     go_wp2
     refine bodyPost_ret (results_cell_row rfl _ _ gb158 27 #[.int .i64 a0_0, .slice Ao12 y162.length co12, .slice Ao42 x166002_1.length co42] (0, 0) _ rfl (by (with_reducible repeat (first | apply bN | apply bD | apply bA)); refine bP (cs := #[.int .i64 a0_0, .slice Ao12 y162.length co12, .slice none 0 0]) ?_ 2 _ rfl; (with_reducible repeat (first | apply bN | apply bD | apply bA)); refine bP (cs := #[.int .i64 a0_0, .slice none 0 0, .slice none 0 0]) ?_ 1 _ rfl; (with_reducible repeat (first | apply bN | apply bD | apply bA)); refine bP (cs := #[.int .i64 0, .slice none 0 0, .slice none 0 0]) ?_ 0 _ rfl; (with_reducible repeat (first | apply bN | apply bD | apply bA)); exact BK158.o) Try.underlying27 rfl (by kernel_rfl)) rfl ?_
     exact ⟨_, _, zE, rM (rB HO_166001 BK158) (fun _ hk => trivial), rM (rB HO_166002 BK158) (fun _ hk => trivial), zB HB⟩
 ·rw [if_neg c2] at H
  exact absurd H (by simp)

end Go.Proofs.Ytfibjclnaeocbaa.PFnPairs
