-- WRITTEN by pp.py, this session's own wrapper around the print; not trusted: Lean checks it
import Derived.Test.YticpmgofegaaeaaPFnDiffersx0
import Derived.Test.YticpmgofegaaeaaPFnDiffersx3
import Derived.Test.YticpmgofegaaeaaPFnDiffersx4
namespace Go.Proofs.Yticpmgofegaaeaa.PFnDiffers
open Go.RowKit Go.Proofs.Yticpmgofegaaeaa.Hw Go.Proofs.YticpmgofegaaeaaW.PrintWords Go.Proofs.YticpmgofegaaeaaW.PrintLast Go.Proofs.YticpmgofegaaeaaW.PrintMore
attribute [local go_sem] max2_int min2_int max_two min_two max_three min_three max_four min_four   -- for this text's walks alone
set_option linter.unusedVariables false
set_option linter.unusedSimpArgs false
set_option linter.unusedSectionVars false

/-! ### impl_EncodeMessage: function 37 -/
def impl_EncodeMessage.l0 : Nat → List (S47) → List (S58) → List Int → List (S47) → Int → Int → Option (List Int × Bool)
 | 0, _, _, _, _, _, _ => none
 | k + 1, x0, x1, x6, x14, x15, x16 => if x16 < x15 then (if 0 ≤ x16 then (if x16 < (x14.length : Int) then ((impl_IsThere.f x0 x1 x16).bind fun t177 => (if t177 = true then (if ((rd_T47 x14 x16).f0) = 1 then (if x16 < (x1.length : Int) then (if x6.length < 17592186044416 then (impl_EncodeMessage.l0 k x0 x1 (x6 ++ [(rd_T58 x1 x16).f0]) x14 x15 (wrap64 (x16 + 1))) else (none)) else (none)) else (if x16 < (x1.length : Int) then (if x6.length < 17592186044416 then ((some (x6 ++ [(((rd_T58 x1 x16).f1).length : Int)] : List Int)).bind fun y183 => (if y183.length + ((rd_T58 x1 x16).f1).length < 17592186044416 then (impl_EncodeMessage.l0 k x0 x1 (y183 ++ ((rd_T58 x1 x16).f1)) x14 x15 (wrap64 (x16 + 1))) else (none))) else (none)) else (none))) else (impl_EncodeMessage.l0 k x0 x1 x6 x14 x15 (wrap64 (x16 + 1))))) else (none)) else (none)) else (some (x6, true))
def impl_EncodeMessage.f (k : Nat) (l0 : List (S47)) (l1 : List (S58)) : Option (List Int × Bool) := (impl_FitsFormat.f k l0 l1).bind fun t171 => (if t171 = true then (impl_EncodeMessage.l0 k l0 l1 (([] : List Int)) l0 (l0.length : Int) 0) else (some (([] : List Int), false)))
theorem impl_EncodeMessage.mono_l : ∀ k, (∀ y0 y1 y2 y3 y4 y5, LeO (impl_EncodeMessage.l0 k y0 y1 y2 y3 y4 y5) (impl_EncodeMessage.l0 (k + 1) y0 y1 y2 y3 y4 y5))
 | 0 => fun _ _ _ _ _ _ r h => by simp [impl_EncodeMessage.l0] at h
 | k + 1 => by
  have ih0 := impl_EncodeMessage.mono_l k
  ·intro y0 y1 y2 y3 y4 y5
   unfold impl_EncodeMessage.l0
   repeat' first
   | (with_reducible exact ih0 _ _ _ _ _ _)
   | (with_reducible exact impl_FitsFormat.mono _ _ _)
   | (with_reducible exact LeO.refl _)
   | (with_reducible exact LeO.none _)
   | (with_reducible refine LeO.ite ?_ ?_)
   | (with_reducible refine LeO.bind ?_ (fun _ => ?_))
   | exact ih0 _ _ _ _ _ _
   | exact impl_FitsFormat.mono _ _ _
   | exact LeO.none _
   | refine LeO.ite ?_ ?_
   | refine LeO.bind ?_ (fun _ => ?_)
theorem impl_EncodeMessage.mono : ∀ a0 a1 k, LeO (impl_EncodeMessage.f k a0 a1) (impl_EncodeMessage.f (k + 1) a0 a1) := by
 intro a0 a1 k
 have ih0 := impl_EncodeMessage.mono_l k
 unfold impl_EncodeMessage.f
 repeat' first
   | (with_reducible exact ih0 _ _ _ _ _ _)
   | (with_reducible exact impl_FitsFormat.mono _ _ _)
   | (with_reducible exact LeO.refl _)
   | (with_reducible exact LeO.none _)
   | (with_reducible refine LeO.ite ?_ ?_)
   | (with_reducible refine LeO.bind ?_ (fun _ => ?_))
   | exact ih0 _ _ _ _ _ _
   | exact impl_FitsFormat.mono _ _ _
   | exact LeO.none _
   | refine LeO.ite ?_ ?_
   | refine LeO.bind ?_ (fun _ => ?_)
def impl_EncodeMessage.T7 : Bool × List (List Nat × List Nat) := (true, [([], []), ([], []), ([], []), ([1, 2], [1, 2]), ([3], [3]), ([4], [4]), ([5], [5]), ([6], [6]), ([0, 7], [0, 7]), ([], []), ([], []), ([9, 10], [9, 10]), ([11], [11]), ([12], [12]), ([8, 13, 8], [8, 13]), ([14, 14, 0, 1, 2, 3, 4, 5, 6, 7, 8, 9, 10, 11, 12, 13, 14], [0, 14])])
def impl_EncodeMessage.B7 : List Nat := [0, 0, 0, 6, 14, 30, 62, 126, 255, 0, 0, 1536, 3584, 7680, 16383, 32767]
theorem impl_EncodeMessage.tab7 : rtab .any (opsOf Try.f37 7) = impl_EncodeMessage.T7 := by kernel_rfl
theorem impl_EncodeMessage.bits7 : waitsOk impl_EncodeMessage.T7.2 impl_EncodeMessage.B7 = true := by kernel_rfl
set_option maxHeartbeats 8000000 in
set_option maxRecDepth 100000 in
theorem impl_EncodeMessage.calls (k : Nat) (A0 : Option Addr) (c0 : Nat) (l0 : List (S47)) (A1 : Option Addr) (c1 : Nat) (l1 : List (S58)) (r1 : List Int) (r2 : Bool) (w : World) (hr0 : Kd.C k47 w A0 l0.length l0) (hc0 : l0.length ≤ c0) (hr1 : Kd.C k58 w A1 l1.length l1) (hc1 : l1.length ≤ c1) (h : impl_EncodeMessage.f k l0 l1 = some (r1, r2)) :
  Calls Try.prog 37 #[.slice A0 l0.length c0, .slice A1 l1.length c1] w fun e w' => ∃ v0_ : Value, e = .returned (.tuple #[v0_, .bool r2]) ∧ Kd.R (Kd.int .i64) 3 w' w.heap.size (fun _ => True) v0_ r1 ∧ Below w.heap.size w w' := by
 have hu47 := Try.underlying47
 have HR0 := Aside0.mk hr0
 have HC0 := Aside0.mk hc0
 clear hr0 hc0
 have HR1 := Aside0.mk hr1
 have HC1 := Aside0.mk hc1
 clear hr1 hc1
 have HB := Aside0.mk (Below.refl w.heap.size w)
 have H : ((impl_FitsFormat.f k l0 l1).bind fun t171 => (if t171 = true then (impl_EncodeMessage.l0 k l0 l1 (([] : List Int)) l0 (l0.length : Int) 0) else (some (([] : List Int), false)))) = some (r1, r2) := h
 clear h
 obtain ⟨t171, A3, H⟩ := bindS H
 by_cases c4 : t171 = true
 ·subst c4
  have H1 : (impl_EncodeMessage.l0 k l0 l1 (([] : List Int)) l0 (l0.length : Int) 0) = some (r1, r2) := by rw [if_pos rfl] at H; exact H
  clear H
  have H := H1
  clear H1
  obtain ⟨y172, hy172⟩ : ∃ y_ : List Int, y_ = (([] : List Int)) := ⟨_, rfl⟩
  replace H : (impl_EncodeMessage.l0 k l0 l1 y172 l0 (l0.length : Int) 0) = some (r1, r2) := by first | (rw [hy172]; with_reducible exact H) | (have H2_ := (Option.bind_some _ _).symm.trans H; rw [hy172]; with_reducible exact H2_) | (have H2_ := (Option.bind_some _ _).symm.trans H; with_reducible exact H2_) | with_reducible exact H | (rw [hy172]; exact H) | exact H
  have Ny172 := Aside0.mk hy172
  clear hy172
  have H' := Aside0.mk H
  clear H
  go_enter Try.func37, Try.ntmps37
  go_wp2_with (first | ((with_reducible refine gate_callee (f := 55) rfl ?_); refine goesL_ (some 11) rfl rfl Try.func55 (by kernel_rfl) rfl #[.slice A0 l0.length c0, .slice A1 l1.length c1] rfl zG ?_; (with_reducible refine (impl_FitsFormat.calls k _ _ l0 _ _ l1 true _ ?side1 ?side2 ?side3 ?side4 A3.out).mono ?_); (case side1 => exact cT HR0); (case side2 => exact HC0.out); (case side3 => exact cT HR1); (case side4 => exact HC1.out); rintro e w5 ⟨rfl, hb⟩; refine ⟨_, rfl, ?_⟩; replace HB := bS HB hb; (try clear hb)) | ((with_reducible refine gate_dst (N := 13) rfl ?_); refine Kd.R_lit (Kd.int .i64) _ 3 ?hg (N := 13) ?hd (xs := ([] : List Int)) (inner := []) (ok := fun _ => True) (okp := fun _ => True) ?hr ?hp (fun _ hk => hk) trivial (Below.refl _ _) (Nat.le_refl _) (by simp) ?_; (case hd => rfl); (case hg => rfl); (case hr => first | (go_simp; done) | (go_simp; rfl)); (case hp => exact (Reps.none _ _)); intro v173 w6 ho7 hb hg_ hnew_; clear hg_ hnew_; (first | rw [← Ny172.out] at ho7 | (simp only [Int.reduceToNat] at ho7; rw [← Ny172.out] at ho7)); have HO174 := Aside0.mk (Kd.R_lower ho7 (below_size (zB HB))); replace HB := bS HB hb; clear hb ho7))
  go_loopg [6, 16] k (fun kq v6 v16 w' => ∃ (x6_1 : List Int) (x16_1 : Int), v16 = .int .i64 x16_1 ∧ Aside0 (impl_EncodeMessage.l0 kq l0 l1 x6_1 l0 (l0.length : Int) x16_1 = some (r1, r2)) ∧ Aside0 (kq ≤ k) ∧ Aside0 (Kd.R (Kd.int .i64) 3 w' w.heap.size (fun _ => True) v6 x6_1) ∧ Aside0 (Below w.heap.size w w'))
  case atStart => exact ⟨(y172), (0), zF, H', ⟨Nat.le_refl _⟩, ⟨zR HO174⟩, ⟨zB HB⟩⟩
  case round =>
   clear H'
   try clear c1
   try clear p2
   try clear c3
   try clear c4
   try clear c5
   obtain ⟨x6_1, x16_1, rfl, HA, HK1, HO_6, HB⟩ := hrel
   cases gk with
   | zero => exact absurd HA.out (by simp [impl_EncodeMessage.l0])
   | succ k1 =>
    have H := HA.out
    clear HA
    simp only [impl_EncodeMessage.l0] at H
    by_cases c8 : x16_1 < (l0.length : Int)
    ·rw [if_pos c8] at H
     have c8b0 : decide (x16_1 < (l0.length : Int)) = true := decide_eq_true c8
     clear c8
     obtain ⟨c9, H⟩ := ifS H
     have c9b0 : decide (0 ≤ x16_1) = true := decide_eq_true c9
     clear c9
     obtain ⟨c10, H⟩ := ifS H
     have c10b0 : decide (x16_1 < (l0.length : Int)) = true := decide_eq_true c10
     clear c10
     obtain ⟨t177, A11, H⟩ := bindS H
     by_cases c12 : t177 = true
     ·subst c12
      have H1 : (if ((rd_T47 l0 x16_1).f0) = 1 then (if x16_1 < (l1.length : Int) then (if x6_1.length < 17592186044416 then (impl_EncodeMessage.l0 k1 l0 l1 (x6_1 ++ [(rd_T58 l1 x16_1).f0]) l0 (l0.length : Int) (wrap64 (x16_1 + 1))) else (none)) else (none)) else (if x16_1 < (l1.length : Int) then (if x6_1.length < 17592186044416 then ((some (x6_1 ++ [(((rd_T58 l1 x16_1).f1).length : Int)] : List Int)).bind fun y183 => (if y183.length + ((rd_T58 l1 x16_1).f1).length < 17592186044416 then (impl_EncodeMessage.l0 k1 l0 l1 (y183 ++ ((rd_T58 l1 x16_1).f1)) l0 (l0.length : Int) (wrap64 (x16_1 + 1))) else (none))) else (none)) else (none))) = some (r1, r2) := by rw [if_pos rfl] at H; exact H
      clear H
      have H := H1
      clear H1
      by_cases c13 : ((rd_T47 l0 x16_1).f0) = 1
      ·rw [if_pos c13] at H
       have c13b0 : (((rd_T47 l0 x16_1).f0) == 1) = true := beq_iff_eq.mpr c13
       have c13b1 : (((rd_T47 l0 x16_1).f0) != 1) = false := bne_eq_false_iff_eq.mpr c13
       clear c13
       obtain ⟨c14, H⟩ := ifS H
       have c14b0 : decide (x16_1 < (l1.length : Int)) = true := decide_eq_true c14
       clear c14
       obtain ⟨c15, H⟩ := ifS H
       have LMc15 := Aside0.mk c15
       clear c15
       obtain ⟨y179, hy179⟩ : ∃ y_ : List Int, y_ = (x6_1 ++ [(rd_T58 l1 x16_1).f0]) := ⟨_, rfl⟩
       replace H : (impl_EncodeMessage.l0 k1 l0 l1 y179 l0 (l0.length : Int) (wrap64 (x16_1 + 1))) = some (r1, r2) := by first | (rw [hy179]; with_reducible exact H) | (have H2_ := (Option.bind_some _ _).symm.trans H; rw [hy179]; with_reducible exact H2_) | (have H2_ := (Option.bind_some _ _).symm.trans H; with_reducible exact H2_) | with_reducible exact H | (rw [hy179]; exact H) | exact H
       have Ny179 := Aside0.mk hy179
       clear hy179
       have H' := Aside0.mk H
       clear H
       have p175 : 0 ≤ (x16_1 : Int) := zD
       have q175 : x16_1 < (l0.length : Int) := zD
       obtain ⟨ad175, e175, hx175_0, hx175_1, hx175_2, hx175_3⟩ := at_T47 HR0.out x16_1 p175 q175
       cases e175
       replace hx175_0 := hL HB hx175_0
       replace hx175_1 := hL HB hx175_1
       replace hx175_2 := hL HB hx175_2
       replace hx175_3 := hL HB hx175_3
       replace p175 := eq_true p175
       replace q175 := eq_true q175
       go_wp2_with (first | ((with_reducible refine gate_dst (N := 8) rfl ?_); refine box_event ?hg (N := 8) ?hd (cs := #[.int .i64 0, .int .i64 0, .int .i64 0, .int .i64 0]) (t := 47) ?hr ?_; (case hd => rfl); (case hg => rfl); (case hr => first | (go_simp; done) | (go_simp; rfl)); intro gb176 hg w16 hbox hb; replace HO_6 := Aside0.mk (Kd.R_below (zR HO_6) hb); have BK176 := Aside0.mk (hbox); have GW176 := gS HB hg; have GE176 := gS HB hg; replace HB := bS HB hb; clear hb hbox hg; have hcz17_0 := bc0 BK176; have hcz17_1 := bc1 BK176; have hcz17_2 := bc2 BK176; have hcz17_3 := bc3 BK176; have hfz17_0 := bf BK176 0; have hfz17_1 := bf BK176 1; have hfz17_2 := bf BK176 2; have hfz17_3 := bf BK176 3) | ((with_reducible refine gate_callee (f := 42) rfl ?_); refine goesL_ (some 40) rfl rfl Try.func42 (by kernel_rfl) rfl #[.slice (some ad175) l0.length c0, .slice A1 l1.length c1, .int .i64 x16_1] rfl zG ?_; (with_reducible refine (impl_IsThere.calls _ _ l0 _ _ l1 x16_1 true _ ?side1 ?side2 ?side3 ?side4 A11.out).mono ?_); (case side1 => exact Kd.C_below HR0.out (zB HB)); (case side2 => exact HC0.out); (case side3 => exact Kd.C_below HR1.out (zB HB)); (case side4 => exact HC1.out); rintro e w18 ⟨rfl, hb⟩; refine ⟨_, rfl, ?_⟩; replace HO_6 := Aside0.mk (Kd.R_below (by (with_reducible repeat (first | apply Kd.R_alloc | apply Kd.R_drewN | apply Kd.R_drew)); exact (Kd.R_mono (Kd.R_far (p := ⟨gb176, 3, none⟩) (Kd.R_far (p := ⟨gb176, 2, none⟩) (Kd.R_far (p := ⟨gb176, 1, none⟩) (Kd.R_far (p := ⟨gb176, 0, none⟩) (Kd.R_types HO_6.out BK176.out (by decide)) (fun _ hk => hk.2) (.int .i64 ((rd_T47 l0 x16_1).f0))) (fun _ hk => hk.2) (.int .i64 ((rd_T47 l0 x16_1).f1))) (fun _ hk => hk.2) (.int .i64 ((rd_T47 l0 x16_1).f2))) (fun _ hk => hk.2) (.int .i64 ((rd_T47 l0 x16_1).f3))) (fun _ h_ => h_.1))) hb); replace BK176 := Aside0.mk (blk_below (g := gb176) (o := .cells #[.int .i64 ((rd_T47 l0 x16_1).f0), .int .i64 ((rd_T47 l0 x16_1).f1), .int .i64 ((rd_T47 l0 x16_1).f2), .int .i64 ((rd_T47 l0 x16_1).f3)] 47 (0, 0)) (by (with_reducible repeat (first | refine blk_drewN ?_ _ | refine blk_drew ?_ | refine blk_alloc ?_ _)); refine blk_put (cs := #[.int .i64 ((rd_T47 l0 x16_1).f0), .int .i64 ((rd_T47 l0 x16_1).f1), .int .i64 ((rd_T47 l0 x16_1).f2), .int .i64 0]) ?_ 3 _ rfl; (with_reducible repeat (first | refine blk_drewN ?_ _ | refine blk_drew ?_ | refine blk_alloc ?_ _)); refine blk_put (cs := #[.int .i64 ((rd_T47 l0 x16_1).f0), .int .i64 ((rd_T47 l0 x16_1).f1), .int .i64 0, .int .i64 0]) ?_ 2 _ rfl; (with_reducible repeat (first | refine blk_drewN ?_ _ | refine blk_drew ?_ | refine blk_alloc ?_ _)); refine blk_put (cs := #[.int .i64 ((rd_T47 l0 x16_1).f0), .int .i64 0, .int .i64 0, .int .i64 0]) ?_ 1 _ rfl; (with_reducible repeat (first | refine blk_drewN ?_ _ | refine blk_drew ?_ | refine blk_alloc ?_ _)); refine blk_put (cs := #[.int .i64 0, .int .i64 0, .int .i64 0, .int .i64 0]) ?_ 0 _ rfl; (with_reducible repeat (first | refine blk_drewN ?_ _ | refine blk_drew ?_ | refine blk_alloc ?_ _)); exact BK176.out) hb); replace HB := bS HB hb; (try clear hb); have hcz19_0 := bc0 BK176; have hcz19_1 := bc1 BK176; have hcz19_2 := bc2 BK176; have hcz19_3 := bc3 BK176; have hfz19_0 := bf BK176 0; have hfz19_1 := bf BK176 1; have hfz19_2 := bf BK176 2; have hfz19_3 := bf BK176 3; have p178 : 0 ≤ (x16_1 : Int) := zD; have q178 : x16_1 < (l1.length : Int) := zD; obtain ⟨ad178, A178_1, c178_1, e178, hx178_0, hx178_1, hl178_1, hi178_1⟩ := at_T58 HR1.out x16_1 p178 q178; cases e178; replace hx178_0 := hL HB hx178_0; replace hx178_1 := hL HB hx178_1; have HR178_1 := Aside0.mk hi178_1; have HC178_1 := Aside0.mk hl178_1; clear hi178_1 hl178_1; replace p178 := eq_true p178; replace q178 := eq_true q178) | ((with_reducible refine gate_builtin (b := .append) (xs := #[.tmp 46, .tmp 52]) rfl ?_); at_builtin; refine Kd.R_append (Kd.int .i64) (w0 := w) w.heap.size rfl (.tmp 46) (.tmp 52) 37 3 (.int .i64 0) 8 rfl Try.underlying37 info3 rfl (by decide) (by omega) u6 x6_1 ((rd_T58 l1 x16_1).f0) [.int .i64 ((rd_T58 l1 x16_1).f0)] (fun _ => True) (fun _ => False) rfl rfl ?aP (fun _ hk => hk.elim) ?aF ?aO ?aB ?aS ?aL ?_; (case aP => exact rfl); (case aB => exact (zB HB)); (case aF => exact (fun _ _ => trivial)); (case aO => exact (zR HO_6)); (case aS => exact (below_size (zB HB))); (case aL => have := LMc15.out; omega); intro v180 w20 ho hb hg hat; rw [← Ny179.out] at ho; replace BK176 := Aside0.mk (blk_grown (g := gb176) (o := .cells #[.int .i64 ((rd_T47 l0 x16_1).f0), .int .i64 ((rd_T47 l0 x16_1).f1), .int .i64 ((rd_T47 l0 x16_1).f2), .int .i64 ((rd_T47 l0 x16_1).f3)] 47 (0, 0)) (zK BK176) hg (Kd.R_ne HO_6.out BK176.out (by decide))); replace HB := Aside0.mk (hb); have HO181 := Aside0.mk (ho); clear HO_6; clear ho hb hg hat))
       go_roundg k1
       case measure => have := HK1.out; omega
       case rel => exact ⟨(y179), (wrap64 (x16_1 + 1)), zF, H', ⟨by have := HK1.out; omega⟩, ⟨zR HO181⟩, ⟨zB HB⟩⟩
      ·rw [if_neg c13] at H
       have c13b0 : (((rd_T47 l0 x16_1).f0) == 1) = false := beq_eq_false_iff_ne.mpr c13
       have c13b1 : (((rd_T47 l0 x16_1).f0) != 1) = true := bne_iff_ne.mpr c13
       obtain ⟨c21, H⟩ := ifS H
       have c21b0 : decide (x16_1 < (l1.length : Int)) = true := decide_eq_true c21
       clear c21
       obtain ⟨c22, H⟩ := ifS H
       have LMc22 := Aside0.mk c22
       clear c22
       obtain ⟨y183, hy183⟩ : ∃ y_ : List Int, y_ = (x6_1 ++ [(((rd_T58 l1 x16_1).f1).length : Int)]) := ⟨_, rfl⟩
       replace H : (if y183.length + ((rd_T58 l1 x16_1).f1).length < 17592186044416 then (impl_EncodeMessage.l0 k1 l0 l1 (y183 ++ ((rd_T58 l1 x16_1).f1)) l0 (l0.length : Int) (wrap64 (x16_1 + 1))) else (none)) = some (r1, r2) := by first | (rw [hy183]; with_reducible exact H) | (have H2_ := (Option.bind_some _ _).symm.trans H; rw [hy183]; with_reducible exact H2_) | (have H2_ := (Option.bind_some _ _).symm.trans H; with_reducible exact H2_) | with_reducible exact H | (rw [hy183]; exact H) | exact H
       have Ny183 := Aside0.mk hy183
       clear hy183
       obtain ⟨c23, H⟩ := ifS H
       have LMc23 := Aside0.mk c23
       clear c23
       obtain ⟨y187, hy187⟩ : ∃ y_ : List Int, y_ = (y183 ++ ((rd_T58 l1 x16_1).f1)) := ⟨_, rfl⟩
       replace H : (impl_EncodeMessage.l0 k1 l0 l1 y187 l0 (l0.length : Int) (wrap64 (x16_1 + 1))) = some (r1, r2) := by first | (rw [hy187]; with_reducible exact H) | (have H2_ := (Option.bind_some _ _).symm.trans H; rw [hy187]; with_reducible exact H2_) | (have H2_ := (Option.bind_some _ _).symm.trans H; with_reducible exact H2_) | with_reducible exact H | (rw [hy187]; exact H) | exact H
       have Ny187 := Aside0.mk hy187
       clear hy187
       have H' := Aside0.mk H
       clear H
       have p175 : 0 ≤ (x16_1 : Int) := zD
       have q175 : x16_1 < (l0.length : Int) := zD
       obtain ⟨ad175, e175, hx175_0, hx175_1, hx175_2, hx175_3⟩ := at_T47 HR0.out x16_1 p175 q175
       cases e175
       replace hx175_0 := hL HB hx175_0
       replace hx175_1 := hL HB hx175_1
       replace hx175_2 := hL HB hx175_2
       replace hx175_3 := hL HB hx175_3
       replace p175 := eq_true p175
       replace q175 := eq_true q175
       try go_wp2_with (first | ((with_reducible refine gate_dst (N := 8) rfl ?_); refine box_event ?hg (N := 8) ?hd (cs := #[.int .i64 0, .int .i64 0, .int .i64 0, .int .i64 0]) (t := 47) ?hr ?_; (case hd => rfl); (case hg => rfl); (case hr => first | (go_simp; done) | (go_simp; rfl)); intro gb176 hg w24 hbox hb; replace HO_6 := Aside0.mk (Kd.R_below (zR HO_6) hb); have BK176 := Aside0.mk (hbox); have GW176 := gS HB hg; have GE176 := gS HB hg; replace HB := bS HB hb; clear hb hbox hg; have hcz25_0 := bc0 BK176; have hcz25_1 := bc1 BK176; have hcz25_2 := bc2 BK176; have hcz25_3 := bc3 BK176; have hfz25_0 := bf BK176 0; have hfz25_1 := bf BK176 1; have hfz25_2 := bf BK176 2; have hfz25_3 := bf BK176 3) | ((with_reducible refine gate_callee (f := 42) rfl ?_); refine goesL_ (some 40) rfl rfl Try.func42 (by kernel_rfl) rfl #[.slice (some ad175) l0.length c0, .slice A1 l1.length c1, .int .i64 x16_1] rfl zG ?_; (with_reducible refine (impl_IsThere.calls _ _ l0 _ _ l1 x16_1 true _ ?side1 ?side2 ?side3 ?side4 A11.out).mono ?_); (case side1 => exact Kd.C_below HR0.out (zB HB)); (case side2 => exact HC0.out); (case side3 => exact Kd.C_below HR1.out (zB HB)); (case side4 => exact HC1.out); rintro e w26 ⟨rfl, hb⟩; refine ⟨_, rfl, ?_⟩; replace HO_6 := Aside0.mk (Kd.R_below (by (with_reducible repeat (first | apply Kd.R_alloc | apply Kd.R_drewN | apply Kd.R_drew)); exact (Kd.R_mono (Kd.R_far (p := ⟨gb176, 3, none⟩) (Kd.R_far (p := ⟨gb176, 2, none⟩) (Kd.R_far (p := ⟨gb176, 1, none⟩) (Kd.R_far (p := ⟨gb176, 0, none⟩) (Kd.R_types HO_6.out BK176.out (by decide)) (fun _ hk => hk.2) (.int .i64 ((rd_T47 l0 x16_1).f0))) (fun _ hk => hk.2) (.int .i64 ((rd_T47 l0 x16_1).f1))) (fun _ hk => hk.2) (.int .i64 ((rd_T47 l0 x16_1).f2))) (fun _ hk => hk.2) (.int .i64 ((rd_T47 l0 x16_1).f3))) (fun _ h_ => h_.1))) hb); replace BK176 := Aside0.mk (blk_below (g := gb176) (o := .cells #[.int .i64 ((rd_T47 l0 x16_1).f0), .int .i64 ((rd_T47 l0 x16_1).f1), .int .i64 ((rd_T47 l0 x16_1).f2), .int .i64 ((rd_T47 l0 x16_1).f3)] 47 (0, 0)) (by (with_reducible repeat (first | refine blk_drewN ?_ _ | refine blk_drew ?_ | refine blk_alloc ?_ _)); refine blk_put (cs := #[.int .i64 ((rd_T47 l0 x16_1).f0), .int .i64 ((rd_T47 l0 x16_1).f1), .int .i64 ((rd_T47 l0 x16_1).f2), .int .i64 0]) ?_ 3 _ rfl; (with_reducible repeat (first | refine blk_drewN ?_ _ | refine blk_drew ?_ | refine blk_alloc ?_ _)); refine blk_put (cs := #[.int .i64 ((rd_T47 l0 x16_1).f0), .int .i64 ((rd_T47 l0 x16_1).f1), .int .i64 0, .int .i64 0]) ?_ 2 _ rfl; (with_reducible repeat (first | refine blk_drewN ?_ _ | refine blk_drew ?_ | refine blk_alloc ?_ _)); refine blk_put (cs := #[.int .i64 ((rd_T47 l0 x16_1).f0), .int .i64 0, .int .i64 0, .int .i64 0]) ?_ 1 _ rfl; (with_reducible repeat (first | refine blk_drewN ?_ _ | refine blk_drew ?_ | refine blk_alloc ?_ _)); refine blk_put (cs := #[.int .i64 0, .int .i64 0, .int .i64 0, .int .i64 0]) ?_ 0 _ rfl; (with_reducible repeat (first | refine blk_drewN ?_ _ | refine blk_drew ?_ | refine blk_alloc ?_ _)); exact BK176.out) hb); replace HB := bS HB hb; (try clear hb); have hcz27_0 := bc0 BK176; have hcz27_1 := bc1 BK176; have hcz27_2 := bc2 BK176; have hcz27_3 := bc3 BK176; have hfz27_0 := bf BK176 0; have hfz27_1 := bf BK176 1; have hfz27_2 := bf BK176 2; have hfz27_3 := bf BK176 3))
       replace HO_6 := Aside0.mk (Kd.R_drew HO_6.out)
       replace BK176 := Aside0.mk (blk_drew BK176.out)
       replace HB := Aside0.mk (below_drew1 HB.out)
       have p182 : 0 ≤ (x16_1 : Int) := zD
       have q182 : x16_1 < (l1.length : Int) := zD
       obtain ⟨ad182, A182_1, c182_1, e182, hx182_0, hx182_1, hl182_1, hi182_1⟩ := at_T58 HR1.out x16_1 p182 q182
       have hw182_1 := hx182_1
       have hw182_0 := hx182_0
       cases e182
       replace hx182_0 := hL HB hx182_0
       replace hx182_1 := hL HB hx182_1
       have HR182_1 := Aside0.mk hi182_1
       have HC182_1 := Aside0.mk hl182_1
       clear hi182_1 hl182_1
       replace p182 := eq_true p182
       replace q182 := eq_true q182
       have p186 : 0 ≤ (x16_1 : Int) := zD
       have q186 : x16_1 < (l1.length : Int) := zD
       obtain ⟨ad186, A186_1, c186_1, e186, hx186_0, hx186_1, hl186_1, hi186_1⟩ := at_T58 HR1.out x16_1 p186 q186
       have hw186_1 := hx186_1
       have hw186_0 := hx186_0
       obtain rfl : ad182 = ad186 := (by injection e186)
       replace hx186_0 := hL HB hx186_0
       replace hx186_1 := hL HB hx186_1
       have HR186_1 := Aside0.mk hi186_1
       have HC186_1 := Aside0.mk hl186_1
       clear hi186_1 hl186_1
       replace p186 := eq_true p186
       replace q186 := eq_true q186
       have ea_ := Option.some.inj (hx182_1.symm.trans hx186_1)
       injection ea_ with ea_ en_ ec_
       subst ea_
       subst ec_
       clear en_
       refine start_ (n := 16) (S := fun w' => w'.cell? (ad182.add ((x16_1).toNat * 2)) = some (.int .i64 ((rd_T58 l1 x16_1).f0)) ∧ w'.cell? ⟨(ad182.add ((x16_1).toNat * 2)).block, (ad182.add ((x16_1).toNat * 2)).off + 1, none⟩ = some (.slice A182_1 ((rd_T58 l1 x16_1).f1).length c182_1) ∧ w'.cell? (ad182.add ((x16_1).toNat * 2)) = some (.int .i64 ((rd_T58 l1 x16_1).f0)) ∧ w'.cell? ⟨(ad182.add ((x16_1).toNat * 2)).block, (ad182.add ((x16_1).toNat * 2)).off + 1, none⟩ = some (.slice A182_1 ((rd_T58 l1 x16_1).f1).length c182_1)) (ds := []) (bm 16 0) (by kernel_rfl) rfl (bm0 _) ⟨(hL HB hw182_0), (hL HB hw182_1), (hL HB hw186_0), (hL HB hw186_1)⟩ (fun hHeld => ?_); refine with_tabW impl_EncodeMessage.tab7 impl_EncodeMessage.bits7 (fun HT_ HW_ => ?_)
       generalize w26.drew = w28 at HO_6 BK176 HB HR182_1 HR186_1 hx182_0 hx182_1 hx186_0 hx186_1 hHeld ⊢
       refine pU 0 (some 21) (bm 16 1) HT_ rfl rfl ?_
       refine pU 1 (some 22) (bm 16 3) HT_ rfl rfl ?_
       refine pU 2 (some 23) (bm 16 7) HT_ rfl rfl ?_
       refine pU 3 (some 24) (bm 16 15) HT_ rfl rfl ?_
       refine pU 4 (some 25) (bm 16 31) HT_ rfl rfl ?_
       refine pU 9 (some 30) (bm 16 543) HT_ rfl rfl ?_
       refine pU 10 (some 31) (bm 16 1567) HT_ rfl rfl ?_
       refine pU 11 (some 32) (bm 16 3615) HT_ rfl rfl ?_
       refine pU 12 (some 33) (bm 16 7711) HT_ rfl rfl ?_
       refine tU 5 (some 26) (bm 16 7743) HT_ HW_ rfl rfl hHeld ?_
       refine pU 6 (some 27) (bm 16 7807) HT_ rfl rfl ?_
       refine tU 13 (some 34) (bm 16 15999) HT_ HW_ rfl rfl hHeld ?_
       refine one_ (i := 7) (N := some 28) (bm 16 16127) rfl rfl (one_of HT_.out (by kernel_rfl)) (by decide) (fun K hK => ?_)
       refine value_ (w1 := ?_) (v := ?_) (by rfl) rfl ?_ ?_
       rotate_left 2
       ·go_simp
        constructor
        ·rfl
        ·rfl
       refine hK.out _ _ ⟨(World.cell?_alloc_lt _ _ _ (World.block_lt_of_cell? _ _ ((hL HB hw182_0)))).trans ((hL HB hw182_0)), (World.cell?_alloc_lt _ _ _ (World.block_lt_of_cell? _ _ ((hL HB hw182_1)))).trans ((hL HB hw182_1)), (World.cell?_alloc_lt _ _ _ (World.block_lt_of_cell? _ _ ((hL HB hw186_0)))).trans ((hL HB hw186_0)), (World.cell?_alloc_lt _ _ _ (World.block_lt_of_cell? _ _ ((hL HB hw186_1)))).trans ((hL HB hw186_1))⟩ (fun hHeld => ?_)
       clear hK K
       refine norm_ (a' := ?_) ?_ ?_
       rotate_left
       ·show Act.put _ (some 28) _ = _
        simp only [Act.put, List.setIfInBounds_toArray, List.set_cons_zero, List.set_cons_succ, i64_w, i32_w]
        rfl
       refine one_ (i := 8) (N := some 29) (bm 16 16383) rfl rfl (one_of HT_.out (by kernel_rfl)) (by decide) (fun K hK => ?_)
       refine Kd.R_append_step (Kd.int .i64) (w0 := w) w.heap.size (by rfl) (.tmp 21) (.tmp 28) 37 3 (.int .i64 0) 8 rfl Try.underlying37 info3 rfl (by decide) (by omega) u6 x6_1 (((rd_T58 l1 x16_1).f1).length : Int) [.int .i64 (((rd_T58 l1 x16_1).f1).length : Int)] (fun _ => True) (fun _ => False) rfl rfl ?aP (fun _ hk => hk.elim) ?aF ?aO ?aB ?aS ?aL ?_
       (case aP => exact rfl)
       (case aB => exact (zB HB))
       (case aF => exact (fun _ _ => trivial))
       (case aO => exact (zR HO_6))
       (case aS => exact (below_size (zB HB)))
       (case aL => have := LMc22.out; omega)
       intro v184 w29 ho hb hg hat
       rw [← Ny183.out] at ho
       replace BK176 := Aside0.mk (blk_grown (g := gb176) (o := .cells #[.int .i64 ((rd_T47 l0 x16_1).f0), .int .i64 ((rd_T47 l0 x16_1).f1), .int .i64 ((rd_T47 l0 x16_1).f2), .int .i64 ((rd_T47 l0 x16_1).f3)] 47 (0, 0)) (zK BK176) hg (Kd.R_ne HO_6.out BK176.out (by decide)))
       replace HB := Aside0.mk (hb)
       have HO185 := Aside0.mk (ho)
       clear HO_6
       clear ho hb hg hat
       refine hK.out _ _ ⟨(hL HB hw182_0), (hL HB hw182_1), (hL HB hw186_0), (hL HB hw186_1)⟩ (fun hHeld => ?_)
       clear hK K
       refine norm_ (a' := ?_) ?_ ?_
       rotate_left
       ·show Act.put _ (some 29) _ = _
        simp only [Act.put, List.setIfInBounds_toArray, List.set_cons_zero, List.set_cons_succ, i64_w, i32_w]
        rfl
       refine one_ (i := 14) (N := some 35) (bm 16 32767) rfl rfl (one_of HT_.out (by kernel_rfl)) (by decide) (fun K hK => ?_)
       refine Kd.R_append_rows_step (Kd.int .i64) (w0 := w) w.heap.size (by rfl) (.tmp 29) (.tmp 34) 37 3 (.int .i64 0) 8 rfl Try.underlying37 info3 rfl (by decide) (by omega) v184 y183 ((rd_T58 l1 x16_1).f1) _ _ _ (fun _ => True) (fun _ => False) rfl rfl ?aO ?aR (fun _ _ h => h) (fun _ h => h.elim) ?aF ?aB ?aS ?aL ?_
       (case aR => repeat (first | exact (Kd.C_below HR186_1.out HB.out) | (with_reducible refine Kd.C_alloc ?_ _) | (with_reducible refine Kd.C_drewN ?_ _) | (with_reducible refine Kd.C_drew ?_)))
       (case aB => exact (zB HB))
       (case aF => exact (fun _ _ => trivial))
       (case aO => exact (zR HO185))
       (case aS => exact (below_size (zB HB)))
       (case aL => have := LMc23.out; omega)
       intro v188 w30 ho hb hg hat
       rw [← Ny187.out] at ho
       replace BK176 := Aside0.mk (blk_grown (g := gb176) (o := .cells #[.int .i64 ((rd_T47 l0 x16_1).f0), .int .i64 ((rd_T47 l0 x16_1).f1), .int .i64 ((rd_T47 l0 x16_1).f2), .int .i64 ((rd_T47 l0 x16_1).f3)] 47 (0, 0)) (zK BK176) hg (Kd.R_ne HO185.out BK176.out (by decide)))
       replace HB := Aside0.mk (hb)
       have HO189 := Aside0.mk (ho)
       clear HO185
       clear ho hb hg hat
       refine hK.out _ _ ⟨(hL HB hw182_0), (hL HB hw182_1), (hL HB hw186_0), (hL HB hw186_1)⟩ (fun hHeld => ?_)
       clear hK K
       refine norm_ (a' := ?_) ?_ ?_
       rotate_left
       ·show Act.put _ (some 35) _ = _
        simp only [Act.put, List.setIfInBounds_toArray, List.set_cons_zero, List.set_cons_succ, i64_w, i32_w]
        rfl
       refine pU 15 (some 6) (bm 16 65535) HT_ rfl rfl ?_
       refine done_ (done_of HT_.out (by kernel_rfl)) ?_
       try clear hHeld
       try go_wp2
       go_roundg k1
       case measure => have := HK1.out; omega
       case rel => exact ⟨(y187), (wrap64 (x16_1 + 1)), zF, H', ⟨by have := HK1.out; omega⟩, ⟨zR HO189⟩, ⟨zB HB⟩⟩
     ·replace c12 := Bool.eq_false_iff.mpr c12
      subst c12
      have H1 : (impl_EncodeMessage.l0 k1 l0 l1 x6_1 l0 (l0.length : Int) (wrap64 (x16_1 + 1))) = some (r1, r2) := by rw [if_neg (show ¬ (false = true) by decide)] at H; exact H
      clear H
      have H := H1
      clear H1
      have H' := Aside0.mk H
      clear H
      have p175 : 0 ≤ (x16_1 : Int) := zD
      have q175 : x16_1 < (l0.length : Int) := zD
      obtain ⟨ad175, e175, hx175_0, hx175_1, hx175_2, hx175_3⟩ := at_T47 HR0.out x16_1 p175 q175
      cases e175
      replace hx175_0 := hL HB hx175_0
      replace hx175_1 := hL HB hx175_1
      replace hx175_2 := hL HB hx175_2
      replace hx175_3 := hL HB hx175_3
      replace p175 := eq_true p175
      replace q175 := eq_true q175
      go_wp2_with (first | ((with_reducible refine gate_dst (N := 8) rfl ?_); refine box_event ?hg (N := 8) ?hd (cs := #[.int .i64 0, .int .i64 0, .int .i64 0, .int .i64 0]) (t := 47) ?hr ?_; (case hd => rfl); (case hg => rfl); (case hr => first | (go_simp; done) | (go_simp; rfl)); intro gb176 hg w31 hbox hb; replace HO_6 := Aside0.mk (Kd.R_below (zR HO_6) hb); have BK176 := Aside0.mk (hbox); have GW176 := gS HB hg; have GE176 := gS HB hg; replace HB := bS HB hb; clear hb hbox hg; have hcz32_0 := bc0 BK176; have hcz32_1 := bc1 BK176; have hcz32_2 := bc2 BK176; have hcz32_3 := bc3 BK176; have hfz32_0 := bf BK176 0; have hfz32_1 := bf BK176 1; have hfz32_2 := bf BK176 2; have hfz32_3 := bf BK176 3) | ((with_reducible refine gate_callee (f := 42) rfl ?_); refine goesL_ (some 40) rfl rfl Try.func42 (by kernel_rfl) rfl #[.slice (some ad175) l0.length c0, .slice A1 l1.length c1, .int .i64 x16_1] rfl zG ?_; (with_reducible refine (impl_IsThere.calls _ _ l0 _ _ l1 x16_1 false _ ?side1 ?side2 ?side3 ?side4 A11.out).mono ?_); (case side1 => exact Kd.C_below HR0.out (zB HB)); (case side2 => exact HC0.out); (case side3 => exact Kd.C_below HR1.out (zB HB)); (case side4 => exact HC1.out); rintro e w33 ⟨rfl, hb⟩; refine ⟨_, rfl, ?_⟩; replace HO_6 := Aside0.mk (Kd.R_below (by (with_reducible repeat (first | apply Kd.R_alloc | apply Kd.R_drewN | apply Kd.R_drew)); exact (Kd.R_mono (Kd.R_far (p := ⟨gb176, 3, none⟩) (Kd.R_far (p := ⟨gb176, 2, none⟩) (Kd.R_far (p := ⟨gb176, 1, none⟩) (Kd.R_far (p := ⟨gb176, 0, none⟩) (Kd.R_types HO_6.out BK176.out (by decide)) (fun _ hk => hk.2) (.int .i64 ((rd_T47 l0 x16_1).f0))) (fun _ hk => hk.2) (.int .i64 ((rd_T47 l0 x16_1).f1))) (fun _ hk => hk.2) (.int .i64 ((rd_T47 l0 x16_1).f2))) (fun _ hk => hk.2) (.int .i64 ((rd_T47 l0 x16_1).f3))) (fun _ h_ => h_.1))) hb); replace BK176 := Aside0.mk (blk_below (g := gb176) (o := .cells #[.int .i64 ((rd_T47 l0 x16_1).f0), .int .i64 ((rd_T47 l0 x16_1).f1), .int .i64 ((rd_T47 l0 x16_1).f2), .int .i64 ((rd_T47 l0 x16_1).f3)] 47 (0, 0)) (by (with_reducible repeat (first | refine blk_drewN ?_ _ | refine blk_drew ?_ | refine blk_alloc ?_ _)); refine blk_put (cs := #[.int .i64 ((rd_T47 l0 x16_1).f0), .int .i64 ((rd_T47 l0 x16_1).f1), .int .i64 ((rd_T47 l0 x16_1).f2), .int .i64 0]) ?_ 3 _ rfl; (with_reducible repeat (first | refine blk_drewN ?_ _ | refine blk_drew ?_ | refine blk_alloc ?_ _)); refine blk_put (cs := #[.int .i64 ((rd_T47 l0 x16_1).f0), .int .i64 ((rd_T47 l0 x16_1).f1), .int .i64 0, .int .i64 0]) ?_ 2 _ rfl; (with_reducible repeat (first | refine blk_drewN ?_ _ | refine blk_drew ?_ | refine blk_alloc ?_ _)); refine blk_put (cs := #[.int .i64 ((rd_T47 l0 x16_1).f0), .int .i64 0, .int .i64 0, .int .i64 0]) ?_ 1 _ rfl; (with_reducible repeat (first | refine blk_drewN ?_ _ | refine blk_drew ?_ | refine blk_alloc ?_ _)); refine blk_put (cs := #[.int .i64 0, .int .i64 0, .int .i64 0, .int .i64 0]) ?_ 0 _ rfl; (with_reducible repeat (first | refine blk_drewN ?_ _ | refine blk_drew ?_ | refine blk_alloc ?_ _)); exact BK176.out) hb); replace HB := bS HB hb; (try clear hb)))
      go_roundg k1
      case measure => have := HK1.out; omega
      case rel => exact ⟨(x6_1), (wrap64 (x16_1 + 1)), zF, H', ⟨by have := HK1.out; omega⟩, ⟨zR HO_6⟩, ⟨zB HB⟩⟩
    ·rw [if_neg c8] at H
     have c8b0 : decide (x16_1 < (l0.length : Int)) = false := decide_eq_false c8
     clear c8
     simp only [Option.some.injEq, Prod.mk.injEq] at H
     obtain ⟨rfl, rfl⟩ := H
     go_wp2
     go_ret2
     exact ⟨_, zE, by (with_reducible repeat (first | apply Kd.R_alloc | apply Kd.R_drewN | apply Kd.R_drew)); exact HO_6.out, zB HB⟩
 ·replace c4 := Bool.eq_false_iff.mpr c4
  subst c4
  have H1 : (some (([] : List Int), false)) = some (r1, r2) := by rw [if_neg (show ¬ (false = true) by decide)] at H; exact H
  clear H
  have H := H1
  clear H1
  simp only [Option.some.injEq, Prod.mk.injEq] at H
  obtain ⟨rfl, rfl⟩ := H
  go_enter Try.func37, Try.ntmps37
  go_wp2_with (first | ((with_reducible refine gate_callee (f := 55) rfl ?_); refine goesL_ (some 11) rfl rfl Try.func55 (by kernel_rfl) rfl #[.slice A0 l0.length c0, .slice A1 l1.length c1] rfl zG ?_; (with_reducible refine (impl_FitsFormat.calls k _ _ l0 _ _ l1 false _ ?side1 ?side2 ?side3 ?side4 A3.out).mono ?_); (case side1 => exact cT HR0); (case side2 => exact HC0.out); (case side3 => exact cT HR1); (case side4 => exact HC1.out); rintro e w34 ⟨rfl, hb⟩; refine ⟨_, rfl, ?_⟩; replace HB := bS HB hb; (try clear hb)))
  go_ret2
  exact ⟨_, zE, by first | exact Kd.R_nil _ _ _ _ _ | exact Kd.N_nil _ _ _ _ _ | exact Kd.V_nil _ _ _ _ _ | exact Kd.Q_nil _ _ _ _ _ | exact Kd.S_nil _ _ _ _ _, zB HB⟩

/-! ### impl_MakeBytes: function 20 -/
def impl_MakeBytes.f (k : Nat) (l0 : List (S47)) (a1 : Int) : Option (List Int) := (impl_MakeMessage.f k l0 a1).bind fun t190 => ((impl_EncodeMessage.f k l0 t190).bind fun bt193 => (some bt193.1))
theorem impl_MakeBytes.mono : ∀ a0 a1 k, LeO (impl_MakeBytes.f k a0 a1) (impl_MakeBytes.f (k + 1) a0 a1) := by
 intro a0 a1 k
 unfold impl_MakeBytes.f
 repeat' first
   | (with_reducible exact impl_EncodeMessage.mono _ _ _)
   | (with_reducible exact impl_MakeMessage.mono _ _ _)
   | (with_reducible exact LeO.refl _)
   | (with_reducible exact LeO.none _)
   | (with_reducible refine LeO.ite ?_ ?_)
   | (with_reducible refine LeO.bind ?_ (fun _ => ?_))
   | exact impl_EncodeMessage.mono _ _ _
   | exact impl_MakeMessage.mono _ _ _
   | exact LeO.none _
   | refine LeO.ite ?_ ?_
   | refine LeO.bind ?_ (fun _ => ?_)
set_option maxHeartbeats 8000000 in
set_option maxRecDepth 100000 in
theorem impl_MakeBytes.calls (k : Nat) (A0 : Option Addr) (c0 : Nat) (l0 : List (S47)) (a1 : Int) (r : List Int) (w : World) (hr0 : Kd.C k47 w A0 l0.length l0) (hc0 : l0.length ≤ c0) (h : impl_MakeBytes.f k l0 a1 = some r) :
  Calls Try.prog 20 #[.slice A0 l0.length c0, .int .i64 a1] w fun e w' => ∃ v0_ : Value, e = .returned (v0_) ∧ Kd.R (Kd.int .i64) 3 w' w.heap.size (fun _ => True) v0_ r ∧ Below w.heap.size w w' := by
 have HR0 := Aside0.mk hr0
 have HC0 := Aside0.mk hc0
 clear hr0 hc0
 have HB := Aside0.mk (Below.refl w.heap.size w)
 have H : ((impl_MakeMessage.f k l0 a1).bind fun t190 => ((impl_EncodeMessage.f k l0 t190).bind fun bt193 => (some bt193.1))) = some r := h
 clear h
 obtain ⟨t190, A3, H⟩ := bindS H
 replace H := Option.bind_eq_some_iff.mp H
 obtain ⟨⟨t193, t194⟩, A40, H⟩ := H
 replace H : (some t193) = some r := H
 have A4 := Aside0.mk A40
 clear A40
 obtain rfl := Option.some.inj H
 go_enter Try.func20, Try.ntmps20
 go_wp2_with (first | ((with_reducible refine gate_callee (f := 23) rfl ?_); refine goesL_ (some 11) rfl rfl Try.func23 (by kernel_rfl) rfl #[.slice A0 l0.length c0, .int .i64 a1] rfl zG ?_; (with_reducible refine (impl_MakeMessage.calls k _ _ l0 a1 t190 _ ?side1 ?side2 A3.out).mono ?_); (case side1 => exact cT HR0); (case side2 => exact HC0.out); rintro e w5 ⟨v191, rfl, ho0, hb⟩; refine ⟨_, rfl, ?_⟩; have HO192 := Aside0.mk (Kd.S_lower ho0 (below_size (zB HB))); replace HB := bS HB hb; (try clear hb); (try clear ho0); obtain ⟨Ao6, co6, eo6⟩ := Kd.S_slice HO192.out; subst eo6) | ((with_reducible refine gate_callee (f := 37) rfl ?_); refine goesL_ (some 12) rfl rfl Try.func37 (by kernel_rfl) rfl #[.slice A0 l0.length c0, .slice Ao6 t190.length co6] rfl zG ?_; (with_reducible refine (impl_EncodeMessage.calls k _ _ l0 _ _ t190 t193 t194 _ ?side1 ?side2 ?side3 ?side4 A4.out).mono ?_); (case side1 => exact cS HR0 HB); (case side2 => exact HC0.out); (case side3 => repeat (first | exact (Kd.S_reads' HO192.out).2.2 | (with_reducible refine Kd.C_alloc ?_ _) | (with_reducible refine Kd.C_drewN ?_ _) | (with_reducible refine Kd.C_drew ?_))); (case side4 => exact (Kd.S_reads' HO192.out).2.1); rintro e w7 ⟨v195, rfl, ho0, hb⟩; refine ⟨_, rfl, ?_⟩; replace HO192 := Aside0.mk (Kd.S_elder' (zS HO192) (Kd.R_base ho0) hb); have HO196 := Aside0.mk (Kd.R_lower ho0 (below_size (zB HB))); replace HB := bS HB hb; (try clear hb); (try clear ho0)))
 go_ret
 exact ⟨_, zE, by (with_reducible repeat (first | apply Kd.R_alloc | apply Kd.R_drewN | apply Kd.R_drew)); exact HO196.out, zB HB⟩

/-- What impl_Value is handed. -/
class KEEP_impl_Value where
 f : Nat → Int → List Int → Int → List Int → Option (Bool)
 mono : ∀ x0 x1 x2 x3 k, LeO (f k x0 x1 x2 x3) (f (k + 1) x0 x1 x2 x3)
section
variable [inst_ : KEEP_impl_Value]
/-! ### impl_Value: function 38 -/
def impl_Value.l0 : Nat → List (S58) → List (S58) → Int → Int → Option (Bool)
 | 0, _, _, _, _ => none
 | k + 1, x1, x15, x16, x17 => if x17 < x16 then (if 0 ≤ x17 then (if x17 < (x15.length : Int) then (if x17 < (x1.length : Int) then ((KEEP_impl_Value.f k ((rd_T58 x15 x17).f0) ((rd_T58 x15 x17).f1) ((rd_T58 x1 x17).f0) ((rd_T58 x1 x17).f1)).bind fun t201 => (if t201 = true then (impl_Value.l0 k x1 x15 x16 (wrap64 (x17 + 1))) else (some false))) else (none)) else (none)) else (none)) else (some true)
def impl_Value.f (k : Nat) (l0 : List (S58)) (l1 : List (S58)) : Option (Bool) := if (l0.length : Int) = (l1.length : Int) then (impl_Value.l0 k l1 l0 (l0.length : Int) 0) else (some false)
theorem impl_Value.mono_l : ∀ k, (∀ y0 y1 y2 y3, LeO (impl_Value.l0 k y0 y1 y2 y3) (impl_Value.l0 (k + 1) y0 y1 y2 y3))
 | 0 => fun _ _ _ _ r h => by simp [impl_Value.l0] at h
 | k + 1 => by
  have ih0 := impl_Value.mono_l k
  ·intro y0 y1 y2 y3
   unfold impl_Value.l0
   repeat' first
   | (with_reducible exact ih0 _ _ _ _)
   | (with_reducible exact KEEP_impl_Value.mono _ _ _ _ _)
   | (with_reducible exact LeO.refl _)
   | (with_reducible exact LeO.none _)
   | (with_reducible refine LeO.ite ?_ ?_)
   | (with_reducible refine LeO.bind ?_ (fun _ => ?_))
   | exact ih0 _ _ _ _
   | exact KEEP_impl_Value.mono _ _ _ _ _
   | exact LeO.none _
   | refine LeO.ite ?_ ?_
   | refine LeO.bind ?_ (fun _ => ?_)
theorem impl_Value.mono : ∀ a0 a1 k, LeO (impl_Value.f k a0 a1) (impl_Value.f (k + 1) a0 a1) := by
 intro a0 a1 k
 have ih0 := impl_Value.mono_l k
 unfold impl_Value.f
 repeat' first
   | (with_reducible exact ih0 _ _ _ _)
   | (with_reducible exact KEEP_impl_Value.mono _ _ _ _ _)
   | (with_reducible exact LeO.refl _)
   | (with_reducible exact LeO.none _)
   | (with_reducible refine LeO.ite ?_ ?_)
   | (with_reducible refine LeO.bind ?_ (fun _ => ?_))
   | exact ih0 _ _ _ _
   | exact KEEP_impl_Value.mono _ _ _ _ _
   | exact LeO.none _
   | refine LeO.ite ?_ ?_
   | refine LeO.bind ?_ (fun _ => ?_)
set_option maxHeartbeats 8000000 in
set_option maxRecDepth 100000 in
theorem impl_Value.calls (k : Nat) (A0 : Option Addr) (c0 : Nat) (l0 : List (S58)) (A1 : Option Addr) (c1 : Nat) (l1 : List (S58)) (r : Bool) (w : World) (hr0 : Kd.C k58 w A0 l0.length l0) (hc0 : l0.length ≤ c0) (hr1 : Kd.C k58 w A1 l1.length l1) (hc1 : l1.length ≤ c1) {g_ : Nat} {fn_ : Func} {lb_ : Array Value} (hf_ : Try.prog.funcs[g_]? = some fn_) (hn_ : (fn_.name == "runtime.NumGoroutine") = false) (hbo_ : fn_.body.isSome = true) (hK_ : ∀ (k : Nat) (a0_0 : Int) (A0_1 : Option Addr) (c0_1 : Nat) (l0_1 : List Int) (a1_0 : Int) (A1_1 : Option Addr) (c1_1 : Nat) (l1_1 : List Int) (r : (Bool)) (W : World), Below w.heap.size w W → Kd.C (Kd.int .i64) W A0_1 l0_1.length l0_1 → l0_1.length ≤ c0_1 → Kd.C (Kd.int .i64) W A1_1 l1_1.length l1_1 → l1_1.length ≤ c1_1 → KEEP_impl_Value.f k a0_0 l0_1 a1_0 l1_1 = some r → Calls Try.prog g_ (#[.agg #[.int .i64 a0_0, .slice A0_1 l0_1.length c0_1], .agg #[.int .i64 a1_0, .slice A1_1 l1_1.length c1_1]] ++ lb_) W fun e w' => e = .returned (.bool r) ∧ Below W.heap.size W w') (h : impl_Value.f k l0 l1 = some r) :
  Calls Try.prog 38 #[.slice A0 l0.length c0, .slice A1 l1.length c1, .func (.func g_) #[] lb_] w fun e w' => e = .returned (.bool r) ∧ Below w.heap.size w w' := by
 have HF_ := Aside0.mk hf_
 have HN_ := Aside0.mk hn_
 have HBO_ := Aside0.mk hbo_
 have HKEEP_ := Aside0.mk hK_
 clear hf_ hn_ hbo_ hK_
 have hu58 := Try.underlying58
 have HR0 := Aside0.mk hr0
 have HC0 := Aside0.mk hc0
 clear hr0 hc0
 have HR1 := Aside0.mk hr1
 have HC1 := Aside0.mk hc1
 clear hr1 hc1
 have HB := Aside0.mk (Below.refl w.heap.size w)
 have H : (if (l0.length : Int) = (l1.length : Int) then (impl_Value.l0 k l1 l0 (l0.length : Int) 0) else (some false)) = some r := h
 clear h
 by_cases c3 : (l0.length : Int) = (l1.length : Int)
 ·rw [if_pos c3] at H
  have c3b0 : ((l0.length : Int) == (l1.length : Int)) = true := beq_iff_eq.mpr c3
  have c3b1 : ((l0.length : Int) != (l1.length : Int)) = false := bne_eq_false_iff_eq.mpr c3
  have c3b2 : (l0.length == l1.length) = true := by first | simpa using c3 | (simp at c3 ⊢; omega)
  clear c3
  have H' := Aside0.mk H
  clear H
  go_enter Try.func38, Try.ntmps38
  go_wp2
  go_loopg [17] k (fun kq v17 w' => ∃ (x17_1 : Int), v17 = .int .i64 x17_1 ∧ Aside0 (impl_Value.l0 kq l1 l0 (l0.length : Int) x17_1 = some r) ∧ Aside0 (kq ≤ k) ∧ Aside0 (Below w.heap.size w w'))
  case atStart => exact ⟨(0), zF, H', ⟨Nat.le_refl _⟩, ⟨zB HB⟩⟩
  case round =>
   clear H'
   try clear c1
   try clear p2
   try clear c3
   try clear c3b0
   try clear c3b1
   try clear c3b2
   obtain ⟨x17_1, rfl, HA, HK1, HB⟩ := hrel
   cases gk with
   | zero => exact absurd HA.out (by simp [impl_Value.l0])
   | succ k1 =>
    have H := HA.out
    clear HA
    simp only [impl_Value.l0] at H
    by_cases c4 : x17_1 < (l0.length : Int)
    ·rw [if_pos c4] at H
     have c4b0 : decide (x17_1 < (l0.length : Int)) = true := decide_eq_true c4
     clear c4
     obtain ⟨c5, H⟩ := ifS H
     have c5b0 : decide (0 ≤ x17_1) = true := decide_eq_true c5
     clear c5
     obtain ⟨c6, H⟩ := ifS H
     have c6b0 : decide (x17_1 < (l0.length : Int)) = true := decide_eq_true c6
     clear c6
     obtain ⟨c7, H⟩ := ifS H
     have c7b0 : decide (x17_1 < (l1.length : Int)) = true := decide_eq_true c7
     clear c7
     obtain ⟨t201, A8, H⟩ := bindS H
     by_cases c9 : t201 = true
     ·subst c9
      have H1 : (impl_Value.l0 k1 l1 l0 (l0.length : Int) (wrap64 (x17_1 + 1))) = some r := by rw [if_pos rfl] at H; exact H
      clear H
      have H := H1
      clear H1
      have H' := Aside0.mk H
      clear H
      have p197 : 0 ≤ (x17_1 : Int) := zD
      have q197 : x17_1 < (l0.length : Int) := zD
      obtain ⟨ad197, A197_1, c197_1, e197, hx197_0, hx197_1, hl197_1, hi197_1⟩ := at_T58 HR0.out x17_1 p197 q197
      cases e197
      replace hx197_0 := hL HB hx197_0
      replace hx197_1 := hL HB hx197_1
      have HR197_1 := Aside0.mk hi197_1
      have HC197_1 := Aside0.mk hl197_1
      clear hi197_1 hl197_1
      replace p197 := eq_true p197
      replace q197 := eq_true q197
      go_wp2_with (first | ((with_reducible refine gate_dst (N := 8) rfl ?_); refine box_event ?hg (N := 8) ?hd (cs := #[.int .i64 0, .slice none 0 0]) (t := 58) ?hr ?_; (case hd => rfl); (case hg => rfl); (case hr => first | (go_simp; done) | (go_simp; rfl)); intro gb198 hg w10 hbox hb; have BK198 := Aside0.mk (hbox); have GW198 := gS HB hg; have GE198 := gS HB hg; replace HB := bS HB hb; clear hb hbox hg; have hcz11_0 := bc0 BK198; have hcz11_1 := bc1 BK198; have hfz11_0 := bf BK198 0; have hfz11_1 := bf BK198 1; have p199 : 0 ≤ (x17_1 : Int) := zD; have q199 : x17_1 < (l1.length : Int) := zD; obtain ⟨ad199, A199_1, c199_1, e199, hx199_0, hx199_1, hl199_1, hi199_1⟩ := at_T58 HR1.out x17_1 p199 q199; cases e199; have hn199_0 : ad199.block ≠ gb198 := Nat.ne_of_lt (Nat.lt_of_lt_of_le (by have := World.block_lt_of_cell? _ _ hx199_0; first | rwa [add_block] at this | exact this) GW198.out); have hn199_1 : ad199.block ≠ gb198 := Nat.ne_of_lt (Nat.lt_of_lt_of_le (by have := World.block_lt_of_cell? _ _ hx199_0; first | rwa [add_block] at this | exact this) GW198.out); replace hx199_0 := hL HB hx199_0; replace hx199_1 := hL HB hx199_1; have HR199_1 := Aside0.mk hi199_1; have HC199_1 := Aside0.mk hl199_1; clear hi199_1 hl199_1; replace hx199_0 := (cell_far (p := ⟨gb198, 0, none⟩) (by first | (rw [add_block]; exact hn199_0) | (show (Addr.add _ _).block ≠ _; rw [add_block]; exact hn199_0) | exact hn199_0) (.int .i64 ((rd_T58 l0 x17_1).f0))).trans hx199_0; replace hx199_1 := (cell_far (p := ⟨gb198, 0, none⟩) (by first | (rw [add_block]; exact hn199_0) | (show (Addr.add _ _).block ≠ _; rw [add_block]; exact hn199_0) | exact hn199_0) (.int .i64 ((rd_T58 l0 x17_1).f0))).trans hx199_1; replace hx199_0 := (cell_far (p := ⟨gb198, 1, none⟩) (by first | (rw [add_block]; exact hn199_1) | (show (Addr.add _ _).block ≠ _; rw [add_block]; exact hn199_1) | exact hn199_1) (.slice A197_1 ((rd_T58 l0 x17_1).f1).length c197_1)).trans hx199_0; replace hx199_1 := (cell_far (p := ⟨gb198, 1, none⟩) (by first | (rw [add_block]; exact hn199_1) | (show (Addr.add _ _).block ≠ _; rw [add_block]; exact hn199_1) | exact hn199_1) (.slice A197_1 ((rd_T58 l0 x17_1).f1).length c197_1)).trans hx199_1; clear hn199_0; clear hn199_1; replace p199 := eq_true p199; replace q199 := eq_true q199) | ((with_reducible refine gate_dst (N := 9) rfl ?_); refine box_event ?hg (N := 9) ?hd (cs := #[.int .i64 0, .slice none 0 0]) (t := 58) ?hr ?_; (case hd => rfl); (case hg => rfl); (case hr => first | (go_simp; done) | (go_simp; rfl)); intro gb200 hg w12 hbox hb; have BK200 := Aside0.mk (hbox); have GW200 := gS HB hg; have GE200 := gS HB hg; replace HB := bS HB hb; have NB198_200 := Aside0.mk ((by rw [hg]; exact Nat.ne_of_lt (blk_lt (g := gb198) (o := .cells #[.int .i64 ((rd_T58 l0 x17_1).f0), .slice A197_1 ((rd_T58 l0 x17_1).f1).length c197_1] 58 (0, 0)) (by (with_reducible repeat (first | refine blk_drewN ?_ _ | refine blk_drew ?_ | refine blk_alloc ?_ _)); refine blk_put (cs := #[.int .i64 ((rd_T58 l0 x17_1).f0), .slice none 0 0]) ?_ 1 _ rfl; (with_reducible repeat (first | refine blk_drewN ?_ _ | refine blk_drew ?_ | refine blk_alloc ?_ _)); refine blk_put (cs := #[.int .i64 0, .slice none 0 0]) ?_ 0 _ rfl; (with_reducible repeat (first | refine blk_drewN ?_ _ | refine blk_drew ?_ | refine blk_alloc ?_ _)); exact BK198.out)) : gb198 ≠ gb200)); have NB200_198 := Aside0.mk ((by rw [hg]; exact Nat.ne_of_gt (blk_lt (g := gb198) (o := .cells #[.int .i64 ((rd_T58 l0 x17_1).f0), .slice A197_1 ((rd_T58 l0 x17_1).f1).length c197_1] 58 (0, 0)) (by (with_reducible repeat (first | refine blk_drewN ?_ _ | refine blk_drew ?_ | refine blk_alloc ?_ _)); refine blk_put (cs := #[.int .i64 ((rd_T58 l0 x17_1).f0), .slice none 0 0]) ?_ 1 _ rfl; (with_reducible repeat (first | refine blk_drewN ?_ _ | refine blk_drew ?_ | refine blk_alloc ?_ _)); refine blk_put (cs := #[.int .i64 0, .slice none 0 0]) ?_ 0 _ rfl; (with_reducible repeat (first | refine blk_drewN ?_ _ | refine blk_drew ?_ | refine blk_alloc ?_ _)); exact BK198.out)) : gb200 ≠ gb198)); replace BK198 := Aside0.mk (blk_below (g := gb198) (o := .cells #[.int .i64 ((rd_T58 l0 x17_1).f0), .slice A197_1 ((rd_T58 l0 x17_1).f1).length c197_1] 58 (0, 0)) (by (with_reducible repeat (first | refine blk_drewN ?_ _ | refine blk_drew ?_ | refine blk_alloc ?_ _)); refine blk_put (cs := #[.int .i64 ((rd_T58 l0 x17_1).f0), .slice none 0 0]) ?_ 1 _ rfl; (with_reducible repeat (first | refine blk_drewN ?_ _ | refine blk_drew ?_ | refine blk_alloc ?_ _)); refine blk_put (cs := #[.int .i64 0, .slice none 0 0]) ?_ 0 _ rfl; (with_reducible repeat (first | refine blk_drewN ?_ _ | refine blk_drew ?_ | refine blk_alloc ?_ _)); exact BK198.out) hb); clear hb hbox hg; have hnb13 := NB200_198.out; have hnc13 := NB198_200.out; have hcz14_0 := bc0 BK200; have hcz14_1 := bc1 BK200; have hfz14_0 := bf BK200 0; have hfz14_1 := bf BK200 1; have hcz15_0 := bc0 BK198; have hcz15_1 := bc1 BK198; have hfz15_0 := bf BK198 0; have hfz15_1 := bf BK198 1) | ((with_reducible refine gate_dst (N := 29) rfl ?_); refine goesV_ (some 29) rfl rfl HF_.out HN_.out HBO_.out #[.agg #[.int .i64 ((rd_T58 l0 x17_1).f0), .slice A197_1 ((rd_T58 l0 x17_1).f1).length c197_1], .agg #[.int .i64 ((rd_T58 l1 x17_1).f0), .slice A199_1 ((rd_T58 l1 x17_1).f1).length c199_1]] rfl rfl zG ?_; (with_reducible refine (HKEEP_.out k1 ((rd_T58 l0 x17_1).f0) _ _ ((rd_T58 l0 x17_1).f1) ((rd_T58 l1 x17_1).f0) _ _ ((rd_T58 l1 x17_1).f1) true _ ?sideK_ ?side1 ?side2 ?side3 ?side4 A8.out).mono ?_); (case sideK_ => repeat (first | (with_reducible first | exact HB.out | apply below_alloc | apply pw_below_drewN | apply below_drew1 | (refine below_set ?_ GE198.out) | (refine below_set ?_ GE200.out)) | exact HB.out)); (case side1 => exact Kd.C_below HR197_1.out (zB HB)); (case side2 => exact HC197_1.out); (case side3 => exact Kd.C_below HR199_1.out (zB HB)); (case side4 => exact HC199_1.out); rintro e w16 ⟨rfl, hb⟩; refine ⟨_, rfl, ?_⟩; replace BK198 := Aside0.mk (blk_below (g := gb198) (o := .cells #[.int .i64 ((rd_T58 l0 x17_1).f0), .slice A197_1 ((rd_T58 l0 x17_1).f1).length c197_1] 58 (0, 0)) (by (with_reducible repeat (first | refine blk_drewN ?_ _ | refine blk_drew ?_ | refine blk_alloc ?_ _)); refine blk_far ?_ NB198_200.out _; (with_reducible repeat (first | refine blk_drewN ?_ _ | refine blk_drew ?_ | refine blk_alloc ?_ _)); refine blk_far ?_ NB198_200.out _; (with_reducible repeat (first | refine blk_drewN ?_ _ | refine blk_drew ?_ | refine blk_alloc ?_ _)); exact BK198.out) hb); replace BK200 := Aside0.mk (blk_below (g := gb200) (o := .cells #[.int .i64 ((rd_T58 l1 x17_1).f0), .slice A199_1 ((rd_T58 l1 x17_1).f1).length c199_1] 58 (0, 0)) (by (with_reducible repeat (first | refine blk_drewN ?_ _ | refine blk_drew ?_ | refine blk_alloc ?_ _)); refine blk_put (cs := #[.int .i64 ((rd_T58 l1 x17_1).f0), .slice none 0 0]) ?_ 1 _ rfl; (with_reducible repeat (first | refine blk_drewN ?_ _ | refine blk_drew ?_ | refine blk_alloc ?_ _)); refine blk_put (cs := #[.int .i64 0, .slice none 0 0]) ?_ 0 _ rfl; (with_reducible repeat (first | refine blk_drewN ?_ _ | refine blk_drew ?_ | refine blk_alloc ?_ _)); exact BK200.out) hb); replace HB := bS HB hb; (try clear hb)))
      go_roundg k1
      case measure => have := HK1.out; omega
      case rel => exact ⟨(wrap64 (x17_1 + 1)), zF, H', ⟨by have := HK1.out; omega⟩, ⟨zB HB⟩⟩
     ·replace c9 := Bool.eq_false_iff.mpr c9
      subst c9
      have H1 : (some false) = some r := by rw [if_neg (show ¬ (false = true) by decide)] at H; exact H
      clear H
      have H := H1
      clear H1
      obtain rfl := Option.some.inj H
      have p197 : 0 ≤ (x17_1 : Int) := zD
      have q197 : x17_1 < (l0.length : Int) := zD
      obtain ⟨ad197, A197_1, c197_1, e197, hx197_0, hx197_1, hl197_1, hi197_1⟩ := at_T58 HR0.out x17_1 p197 q197
      cases e197
      replace hx197_0 := hL HB hx197_0
      replace hx197_1 := hL HB hx197_1
      have HR197_1 := Aside0.mk hi197_1
      have HC197_1 := Aside0.mk hl197_1
      clear hi197_1 hl197_1
      replace p197 := eq_true p197
      replace q197 := eq_true q197
      go_wp2_with (first | ((with_reducible refine gate_dst (N := 8) rfl ?_); refine box_event ?hg (N := 8) ?hd (cs := #[.int .i64 0, .slice none 0 0]) (t := 58) ?hr ?_; (case hd => rfl); (case hg => rfl); (case hr => first | (go_simp; done) | (go_simp; rfl)); intro gb198 hg w17 hbox hb; have BK198 := Aside0.mk (hbox); have GW198 := gS HB hg; have GE198 := gS HB hg; replace HB := bS HB hb; clear hb hbox hg; have hcz18_0 := bc0 BK198; have hcz18_1 := bc1 BK198; have hfz18_0 := bf BK198 0; have hfz18_1 := bf BK198 1; have p199 : 0 ≤ (x17_1 : Int) := zD; have q199 : x17_1 < (l1.length : Int) := zD; obtain ⟨ad199, A199_1, c199_1, e199, hx199_0, hx199_1, hl199_1, hi199_1⟩ := at_T58 HR1.out x17_1 p199 q199; cases e199; have hn199_0 : ad199.block ≠ gb198 := Nat.ne_of_lt (Nat.lt_of_lt_of_le (by have := World.block_lt_of_cell? _ _ hx199_0; first | rwa [add_block] at this | exact this) GW198.out); have hn199_1 : ad199.block ≠ gb198 := Nat.ne_of_lt (Nat.lt_of_lt_of_le (by have := World.block_lt_of_cell? _ _ hx199_0; first | rwa [add_block] at this | exact this) GW198.out); replace hx199_0 := hL HB hx199_0; replace hx199_1 := hL HB hx199_1; have HR199_1 := Aside0.mk hi199_1; have HC199_1 := Aside0.mk hl199_1; clear hi199_1 hl199_1; replace hx199_0 := (cell_far (p := ⟨gb198, 0, none⟩) (by first | (rw [add_block]; exact hn199_0) | (show (Addr.add _ _).block ≠ _; rw [add_block]; exact hn199_0) | exact hn199_0) (.int .i64 ((rd_T58 l0 x17_1).f0))).trans hx199_0; replace hx199_1 := (cell_far (p := ⟨gb198, 0, none⟩) (by first | (rw [add_block]; exact hn199_0) | (show (Addr.add _ _).block ≠ _; rw [add_block]; exact hn199_0) | exact hn199_0) (.int .i64 ((rd_T58 l0 x17_1).f0))).trans hx199_1; replace hx199_0 := (cell_far (p := ⟨gb198, 1, none⟩) (by first | (rw [add_block]; exact hn199_1) | (show (Addr.add _ _).block ≠ _; rw [add_block]; exact hn199_1) | exact hn199_1) (.slice A197_1 ((rd_T58 l0 x17_1).f1).length c197_1)).trans hx199_0; replace hx199_1 := (cell_far (p := ⟨gb198, 1, none⟩) (by first | (rw [add_block]; exact hn199_1) | (show (Addr.add _ _).block ≠ _; rw [add_block]; exact hn199_1) | exact hn199_1) (.slice A197_1 ((rd_T58 l0 x17_1).f1).length c197_1)).trans hx199_1; clear hn199_0; clear hn199_1; replace p199 := eq_true p199; replace q199 := eq_true q199) | ((with_reducible refine gate_dst (N := 9) rfl ?_); refine box_event ?hg (N := 9) ?hd (cs := #[.int .i64 0, .slice none 0 0]) (t := 58) ?hr ?_; (case hd => rfl); (case hg => rfl); (case hr => first | (go_simp; done) | (go_simp; rfl)); intro gb200 hg w19 hbox hb; have BK200 := Aside0.mk (hbox); have GW200 := gS HB hg; have GE200 := gS HB hg; replace HB := bS HB hb; have NB198_200 := Aside0.mk ((by rw [hg]; exact Nat.ne_of_lt (blk_lt (g := gb198) (o := .cells #[.int .i64 ((rd_T58 l0 x17_1).f0), .slice A197_1 ((rd_T58 l0 x17_1).f1).length c197_1] 58 (0, 0)) (by (with_reducible repeat (first | refine blk_drewN ?_ _ | refine blk_drew ?_ | refine blk_alloc ?_ _)); refine blk_put (cs := #[.int .i64 ((rd_T58 l0 x17_1).f0), .slice none 0 0]) ?_ 1 _ rfl; (with_reducible repeat (first | refine blk_drewN ?_ _ | refine blk_drew ?_ | refine blk_alloc ?_ _)); refine blk_put (cs := #[.int .i64 0, .slice none 0 0]) ?_ 0 _ rfl; (with_reducible repeat (first | refine blk_drewN ?_ _ | refine blk_drew ?_ | refine blk_alloc ?_ _)); exact BK198.out)) : gb198 ≠ gb200)); have NB200_198 := Aside0.mk ((by rw [hg]; exact Nat.ne_of_gt (blk_lt (g := gb198) (o := .cells #[.int .i64 ((rd_T58 l0 x17_1).f0), .slice A197_1 ((rd_T58 l0 x17_1).f1).length c197_1] 58 (0, 0)) (by (with_reducible repeat (first | refine blk_drewN ?_ _ | refine blk_drew ?_ | refine blk_alloc ?_ _)); refine blk_put (cs := #[.int .i64 ((rd_T58 l0 x17_1).f0), .slice none 0 0]) ?_ 1 _ rfl; (with_reducible repeat (first | refine blk_drewN ?_ _ | refine blk_drew ?_ | refine blk_alloc ?_ _)); refine blk_put (cs := #[.int .i64 0, .slice none 0 0]) ?_ 0 _ rfl; (with_reducible repeat (first | refine blk_drewN ?_ _ | refine blk_drew ?_ | refine blk_alloc ?_ _)); exact BK198.out)) : gb200 ≠ gb198)); replace BK198 := Aside0.mk (blk_below (g := gb198) (o := .cells #[.int .i64 ((rd_T58 l0 x17_1).f0), .slice A197_1 ((rd_T58 l0 x17_1).f1).length c197_1] 58 (0, 0)) (by (with_reducible repeat (first | refine blk_drewN ?_ _ | refine blk_drew ?_ | refine blk_alloc ?_ _)); refine blk_put (cs := #[.int .i64 ((rd_T58 l0 x17_1).f0), .slice none 0 0]) ?_ 1 _ rfl; (with_reducible repeat (first | refine blk_drewN ?_ _ | refine blk_drew ?_ | refine blk_alloc ?_ _)); refine blk_put (cs := #[.int .i64 0, .slice none 0 0]) ?_ 0 _ rfl; (with_reducible repeat (first | refine blk_drewN ?_ _ | refine blk_drew ?_ | refine blk_alloc ?_ _)); exact BK198.out) hb); clear hb hbox hg; have hnb20 := NB200_198.out; have hnc20 := NB198_200.out; have hcz21_0 := bc0 BK200; have hcz21_1 := bc1 BK200; have hfz21_0 := bf BK200 0; have hfz21_1 := bf BK200 1; have hcz22_0 := bc0 BK198; have hcz22_1 := bc1 BK198; have hfz22_0 := bf BK198 0; have hfz22_1 := bf BK198 1) | ((with_reducible refine gate_dst (N := 29) rfl ?_); refine goesV_ (some 29) rfl rfl HF_.out HN_.out HBO_.out #[.agg #[.int .i64 ((rd_T58 l0 x17_1).f0), .slice A197_1 ((rd_T58 l0 x17_1).f1).length c197_1], .agg #[.int .i64 ((rd_T58 l1 x17_1).f0), .slice A199_1 ((rd_T58 l1 x17_1).f1).length c199_1]] rfl rfl zG ?_; (with_reducible refine (HKEEP_.out k1 ((rd_T58 l0 x17_1).f0) _ _ ((rd_T58 l0 x17_1).f1) ((rd_T58 l1 x17_1).f0) _ _ ((rd_T58 l1 x17_1).f1) false _ ?sideK_ ?side1 ?side2 ?side3 ?side4 A8.out).mono ?_); (case sideK_ => repeat (first | (with_reducible first | exact HB.out | apply below_alloc | apply pw_below_drewN | apply below_drew1 | (refine below_set ?_ GE198.out) | (refine below_set ?_ GE200.out)) | exact HB.out)); (case side1 => exact Kd.C_below HR197_1.out (zB HB)); (case side2 => exact HC197_1.out); (case side3 => exact Kd.C_below HR199_1.out (zB HB)); (case side4 => exact HC199_1.out); rintro e w23 ⟨rfl, hb⟩; refine ⟨_, rfl, ?_⟩; replace BK198 := Aside0.mk (blk_below (g := gb198) (o := .cells #[.int .i64 ((rd_T58 l0 x17_1).f0), .slice A197_1 ((rd_T58 l0 x17_1).f1).length c197_1] 58 (0, 0)) (by (with_reducible repeat (first | refine blk_drewN ?_ _ | refine blk_drew ?_ | refine blk_alloc ?_ _)); refine blk_far ?_ NB198_200.out _; (with_reducible repeat (first | refine blk_drewN ?_ _ | refine blk_drew ?_ | refine blk_alloc ?_ _)); refine blk_far ?_ NB198_200.out _; (with_reducible repeat (first | refine blk_drewN ?_ _ | refine blk_drew ?_ | refine blk_alloc ?_ _)); exact BK198.out) hb); replace BK200 := Aside0.mk (blk_below (g := gb200) (o := .cells #[.int .i64 ((rd_T58 l1 x17_1).f0), .slice A199_1 ((rd_T58 l1 x17_1).f1).length c199_1] 58 (0, 0)) (by (with_reducible repeat (first | refine blk_drewN ?_ _ | refine blk_drew ?_ | refine blk_alloc ?_ _)); refine blk_put (cs := #[.int .i64 ((rd_T58 l1 x17_1).f0), .slice none 0 0]) ?_ 1 _ rfl; (with_reducible repeat (first | refine blk_drewN ?_ _ | refine blk_drew ?_ | refine blk_alloc ?_ _)); refine blk_put (cs := #[.int .i64 0, .slice none 0 0]) ?_ 0 _ rfl; (with_reducible repeat (first | refine blk_drewN ?_ _ | refine blk_drew ?_ | refine blk_alloc ?_ _)); exact BK200.out) hb); replace HB := bS HB hb; (try clear hb)))
      go_ret
      exact ⟨zE, zB HB⟩
    ·rw [if_neg c4] at H
     have c4b0 : decide (x17_1 < (l0.length : Int)) = false := decide_eq_false c4
     clear c4
     obtain rfl := Option.some.inj H
     go_wp2
     go_ret
     exact ⟨zE, zB HB⟩
 ·rw [if_neg c3] at H
  have c3b0 : ((l0.length : Int) == (l1.length : Int)) = false := beq_eq_false_iff_ne.mpr c3
  have c3b1 : ((l0.length : Int) != (l1.length : Int)) = true := bne_iff_ne.mpr c3
  have c3b2 : (l0.length == l1.length) = false := by first | simpa using c3 | (simp at c3 ⊢; omega)
  obtain rfl := Option.some.inj H
  go_enter Try.func38, Try.ntmps38
  go_wp2
  go_ret
  exact ⟨zE, zB HB⟩

end

/-! ### slices_Equal_int_int: function 40 -/
def slices_Equal_int_int.l0 : Nat → List Int → List Int → Int → Int → Option (Bool)
 | 0, _, _, _, _ => none
 | k + 1, x0, x1, x12, x13 => if x13 < x12 then (if 0 ≤ x13 then (if x13 < (x0.length : Int) then (if x13 < (x1.length : Int) then (if (rd x0 x13) = (rd x1 x13) then (slices_Equal_int_int.l0 k x0 x1 x12 (wrap64 (x13 + 1))) else (some false)) else (none)) else (none)) else (none)) else (some true)
def slices_Equal_int_int.f (k : Nat) (l0 : List Int) (l1 : List Int) : Option (Bool) := if (l0.length : Int) = (l1.length : Int) then (slices_Equal_int_int.l0 k l0 l1 (l0.length : Int) 0) else (some false)
theorem slices_Equal_int_int.mono_l : ∀ k, (∀ y0 y1 y2 y3, LeO (slices_Equal_int_int.l0 k y0 y1 y2 y3) (slices_Equal_int_int.l0 (k + 1) y0 y1 y2 y3))
 | 0 => fun _ _ _ _ r h => by simp [slices_Equal_int_int.l0] at h
 | k + 1 => by
  have ih0 := slices_Equal_int_int.mono_l k
  ·intro y0 y1 y2 y3
   unfold slices_Equal_int_int.l0
   repeat' first
   | (with_reducible exact ih0 _ _ _ _)
   | (with_reducible exact LeO.refl _)
   | (with_reducible exact LeO.none _)
   | (with_reducible refine LeO.ite ?_ ?_)
   | (with_reducible refine LeO.bind ?_ (fun _ => ?_))
   | exact ih0 _ _ _ _
   | exact LeO.none _
   | refine LeO.ite ?_ ?_
   | refine LeO.bind ?_ (fun _ => ?_)
theorem slices_Equal_int_int.mono : ∀ a0 a1 k, LeO (slices_Equal_int_int.f k a0 a1) (slices_Equal_int_int.f (k + 1) a0 a1) := by
 intro a0 a1 k
 have ih0 := slices_Equal_int_int.mono_l k
 unfold slices_Equal_int_int.f
 repeat' first
   | (with_reducible exact ih0 _ _ _ _)
   | (with_reducible exact LeO.refl _)
   | (with_reducible exact LeO.none _)
   | (with_reducible refine LeO.ite ?_ ?_)
   | (with_reducible refine LeO.bind ?_ (fun _ => ?_))
   | exact ih0 _ _ _ _
   | exact LeO.none _
   | refine LeO.ite ?_ ?_
   | refine LeO.bind ?_ (fun _ => ?_)
set_option maxHeartbeats 8000000 in
set_option maxRecDepth 100000 in
theorem slices_Equal_int_int.calls (k : Nat) (A0 : Option Addr) (c0 : Nat) (l0 : List Int) (A1 : Option Addr) (c1 : Nat) (l1 : List Int) (r : Bool) (w : World) (hr0 : Kd.C (Kd.int .i64) w A0 l0.length l0) (hc0 : l0.length ≤ c0) (hr1 : Kd.C (Kd.int .i64) w A1 l1.length l1) (hc1 : l1.length ≤ c1) (h : slices_Equal_int_int.f k l0 l1 = some r) :
  Calls Try.prog 40 #[.slice A0 l0.length c0, .slice A1 l1.length c1] w fun e w' => e = .returned (.bool r) ∧ Drawn0 w w' := by
 have HR0 := Aside0.mk hr0
 have HC0 := Aside0.mk hc0
 clear hr0 hc0
 have HR1 := Aside0.mk hr1
 have HC1 := Aside0.mk hc1
 clear hr1 hc1
 have H : (if (l0.length : Int) = (l1.length : Int) then (slices_Equal_int_int.l0 k l0 l1 (l0.length : Int) 0) else (some false)) = some r := h
 clear h
 by_cases c3 : (l0.length : Int) = (l1.length : Int)
 ·rw [if_pos c3] at H
  have c3b0 : ((l0.length : Int) == (l1.length : Int)) = true := beq_iff_eq.mpr c3
  have c3b1 : ((l0.length : Int) != (l1.length : Int)) = false := bne_eq_false_iff_eq.mpr c3
  have c3b2 : (l0.length == l1.length) = true := by first | simpa using c3 | (simp at c3 ⊢; omega)
  clear c3
  have H' := Aside0.mk H
  clear H
  go_enter Try.func40, Try.ntmps40
  go_wp2
  repeat (go_quiet (fail); try go_wp2)
  go_loopg [13] k (fun kq v13 w' => ∃ (x13_1 : Int), v13 = .int .i64 x13_1 ∧ Aside0 (slices_Equal_int_int.l0 kq l0 l1 (l0.length : Int) x13_1 = some r) ∧ Aside0 (kq ≤ k) ∧ Drawn0 w w')
  case atStart => exact ⟨(0), zF, H', ⟨Nat.le_refl _⟩, by repeat (first | exact Drawn0.refl _ | apply Drawn0.step)⟩
  case round =>
   clear H'
   try clear c1
   try clear p2
   try clear c3
   try clear c3b0
   try clear c3b1
   try clear c3b2
   obtain ⟨x13_1, rfl, HA, HK1, ⟨m1, rfl⟩⟩ := hrel
   cases gk with
   | zero => exact absurd HA.out (by simp [slices_Equal_int_int.l0])
   | succ k1 =>
    have H := HA.out
    clear HA
    simp only [slices_Equal_int_int.l0] at H
    by_cases c4 : x13_1 < (l0.length : Int)
    ·rw [if_pos c4] at H
     have c4b0 : decide (x13_1 < (l0.length : Int)) = true := decide_eq_true c4
     clear c4
     obtain ⟨c5, H⟩ := ifS H
     have c5b0 : decide (0 ≤ x13_1) = true := decide_eq_true c5
     clear c5
     obtain ⟨c6, H⟩ := ifS H
     have c6b0 : decide (x13_1 < (l0.length : Int)) = true := decide_eq_true c6
     clear c6
     obtain ⟨c7, H⟩ := ifS H
     have c7b0 : decide (x13_1 < (l1.length : Int)) = true := decide_eq_true c7
     clear c7
     by_cases c8 : (rd l0 x13_1) = (rd l1 x13_1)
     ·rw [if_pos c8] at H
      have c8b0 : ((rd l0 x13_1) == (rd l1 x13_1)) = true := beq_iff_eq.mpr c8
      have c8b1 : ((rd l0 x13_1) != (rd l1 x13_1)) = false := bne_eq_false_iff_eq.mpr c8
      clear c8
      have H' := Aside0.mk H
      clear H
      have p202 : 0 ≤ (x13_1 : Int) := zD
      have q202 : x13_1 < (l0.length : Int) := zD
      obtain ⟨ad202, e202, hx202_0⟩ := Kd.at_int HR0.out x13_1 p202 q202
      cases e202
      replace p202 := eq_true p202
      replace q202 := eq_true q202
      have p203 : 0 ≤ (x13_1 : Int) := zD
      have q203 : x13_1 < (l1.length : Int) := zD
      obtain ⟨ad203, e203, hx203_0⟩ := Kd.at_int HR1.out x13_1 p203 q203
      cases e203
      replace p203 := eq_true p203
      replace q203 := eq_true q203
      go_wp2
      repeat (go_quiet (fail); try go_wp2)
      go_roundg k1
      case measure => have := HK1.out; omega
      case rel => exact ⟨(wrap64 (x13_1 + 1)), zF, H', ⟨by have := HK1.out; omega⟩, by repeat (first | exact Drawn0.refl _ | apply Drawn0.step)⟩
     ·rw [if_neg c8] at H
      have c8b0 : ((rd l0 x13_1) == (rd l1 x13_1)) = false := beq_eq_false_iff_ne.mpr c8
      have c8b1 : ((rd l0 x13_1) != (rd l1 x13_1)) = true := bne_iff_ne.mpr c8
      obtain rfl := Option.some.inj H
      have p202 : 0 ≤ (x13_1 : Int) := zD
      have q202 : x13_1 < (l0.length : Int) := zD
      obtain ⟨ad202, e202, hx202_0⟩ := Kd.at_int HR0.out x13_1 p202 q202
      cases e202
      replace p202 := eq_true p202
      replace q202 := eq_true q202
      have p203 : 0 ≤ (x13_1 : Int) := zD
      have q203 : x13_1 < (l1.length : Int) := zD
      obtain ⟨ad203, e203, hx203_0⟩ := Kd.at_int HR1.out x13_1 p203 q203
      cases e203
      replace p203 := eq_true p203
      replace q203 := eq_true q203
      go_wp2
      repeat (go_quiet (fail); try go_wp2)
      go_ret
      exact ⟨by first | rfl | (simp; done) | (simp [*]; done), by repeat (first | exact Drawn0.refl _ | apply Drawn0.step)⟩
    ·rw [if_neg c4] at H
     have c4b0 : decide (x13_1 < (l0.length : Int)) = false := decide_eq_false c4
     clear c4
     obtain rfl := Option.some.inj H
     go_wp2
     repeat (go_quiet (fail); try go_wp2)
     go_ret
     exact ⟨by first | rfl | (simp; done) | (simp [*]; done), by repeat (first | exact Drawn0.refl _ | apply Drawn0.step)⟩
 ·rw [if_neg c3] at H
  have c3b0 : ((l0.length : Int) == (l1.length : Int)) = false := beq_eq_false_iff_ne.mpr c3
  have c3b1 : ((l0.length : Int) != (l1.length : Int)) = true := bne_iff_ne.mpr c3
  have c3b2 : (l0.length == l1.length) = false := by first | simpa using c3 | (simp at c3 ⊢; omega)
  obtain rfl := Option.some.inj H
  go_enter Try.func40, Try.ntmps40
  go_wp2
  repeat (go_quiet (fail); try go_wp2)
  go_ret
  exact ⟨by first | rfl | (simp; done) | (simp [*]; done), by repeat (first | exact Drawn0.refl _ | apply Drawn0.step)⟩

/-! ### impl_EqualMessages_lit: function 39 -/
def impl_EqualMessages_lit.f (k : Nat) (a0_0 : Int) (l0_1 : List Int) (a1_0 : Int) (l1_1 : List Int) : Option (Bool) := if a0_0 = a1_0 then ((slices_Equal_int_int.f k l0_1 l1_1).bind fun t206 => (some t206)) else (some false)
theorem impl_EqualMessages_lit.mono : ∀ a0 a1 a2 a3 k, LeO (impl_EqualMessages_lit.f k a0 a1 a2 a3) (impl_EqualMessages_lit.f (k + 1) a0 a1 a2 a3) := by
 intro a0 a1 a2 a3 k
 unfold impl_EqualMessages_lit.f
 repeat' first
   | (with_reducible exact slices_Equal_int_int.mono _ _ _)
   | (with_reducible exact LeO.refl _)
   | (with_reducible exact LeO.none _)
   | (with_reducible refine LeO.ite ?_ ?_)
   | (with_reducible refine LeO.bind ?_ (fun _ => ?_))
   | exact slices_Equal_int_int.mono _ _ _
   | exact LeO.none _
   | refine LeO.ite ?_ ?_
   | refine LeO.bind ?_ (fun _ => ?_)
set_option maxHeartbeats 8000000 in
set_option maxRecDepth 100000 in
theorem impl_EqualMessages_lit.calls (k : Nat) (a0_0 : Int) (A0_1 : Option Addr) (c0_1 : Nat) (l0_1 : List Int) (a1_0 : Int) (A1_1 : Option Addr) (c1_1 : Nat) (l1_1 : List Int) (r : Bool) (w : World) (hr0_1 : Kd.C (Kd.int .i64) w A0_1 l0_1.length l0_1) (hc0_1 : l0_1.length ≤ c0_1) (hr1_1 : Kd.C (Kd.int .i64) w A1_1 l1_1.length l1_1) (hc1_1 : l1_1.length ≤ c1_1) (h : impl_EqualMessages_lit.f k a0_0 l0_1 a1_0 l1_1 = some r) :
  Calls Try.prog 39 #[.agg #[.int .i64 a0_0, .slice A0_1 l0_1.length c0_1], .agg #[.int .i64 a1_0, .slice A1_1 l1_1.length c1_1]] w fun e w' => e = .returned (.bool r) ∧ Below w.heap.size w w' := by
 have hu58 := Try.underlying58
 have HR0_1 := Aside0.mk hr0_1
 have HC0_1 := Aside0.mk hc0_1
 clear hr0_1 hc0_1
 have HR1_1 := Aside0.mk hr1_1
 have HC1_1 := Aside0.mk hc1_1
 clear hr1_1 hc1_1
 have HB := Aside0.mk (Below.refl w.heap.size w)
 have H : (if a0_0 = a1_0 then ((slices_Equal_int_int.f k l0_1 l1_1).bind fun t206 => (some t206)) else (some false)) = some r := h
 clear h
 by_cases c3 : a0_0 = a1_0
 ·rw [if_pos c3] at H
  have c3b0 : (a0_0 == a1_0) = true := beq_iff_eq.mpr c3
  have c3b1 : (a0_0 != a1_0) = false := bne_eq_false_iff_eq.mpr c3
  clear c3
  obtain ⟨t206, A4, H⟩ := bindS H
  obtain rfl := Option.some.inj H
  go_enter Try.func39, Try.ntmps39
  go_wp2_with (first | ((with_reducible refine gate_dst (N := 2) rfl ?_); refine box_event ?hg (N := 2) ?hd (cs := #[.int .i64 a0_0, .slice A0_1 l0_1.length c0_1]) (t := 58) ?hr ?_; (case hd => rfl); (case hg => rfl); (case hr => first | (go_simp; done) | (go_simp; rfl)); intro gb204 hg w5 hbox hb; have BK204 := Aside0.mk (hbox); have GW204 := gS HB hg; have GE204 := gS HB hg; replace HB := bS HB hb; clear hb hbox hg) | ((with_reducible refine gate_dst (N := 3) rfl ?_); refine box_event ?hg (N := 3) ?hd (cs := #[.int .i64 a1_0, .slice A1_1 l1_1.length c1_1]) (t := 58) ?hr ?_; (case hd => rfl); (case hg => rfl); (case hr => first | (go_simp; done) | (go_simp; rfl)); intro gb205 hg w6 hbox hb; have BK205 := Aside0.mk (hbox); have GW205 := gS HB hg; have GE205 := gS HB hg; replace HB := bS HB hb; have NB204_205 := nL BK204 hg; have NB205_204 := nR BK204 hg; replace BK204 := kB BK204 hb; clear hb hbox hg; have hnb7 := NB204_205.out; have hnc7 := NB205_204.out; have hcz8_0 := bc0 BK204; have hcz8_1 := bc1 BK204; have hfz8_0 := bf BK204 0; have hfz8_1 := bf BK204 1; have hcz9_0 := bc0 BK205; have hcz9_1 := bc1 BK205; have hfz9_0 := bf BK205 0; have hfz9_1 := bf BK205 1) | (go_at_call 40; (with_reducible refine (slices_Equal_int_int.calls k _ _ l0_1 _ _ l1_1 t206 _ ?side1 ?side2 ?side3 ?side4 A4.out).mono ?_); (case side1 => exact cS HR0_1 HB); (case side2 => exact HC0_1.out); (case side3 => exact cS HR1_1 HB); (case side4 => exact HC1_1.out); rintro e w' ⟨rfl, ⟨nd, rfl⟩⟩))
  go_ret
  exact ⟨zE, zB HB⟩
 ·rw [if_neg c3] at H
  have c3b0 : (a0_0 == a1_0) = false := beq_eq_false_iff_ne.mpr c3
  have c3b1 : (a0_0 != a1_0) = true := bne_iff_ne.mpr c3
  obtain rfl := Option.some.inj H
  go_enter Try.func39, Try.ntmps39
  go_wp2_with (first | ((with_reducible refine gate_dst (N := 2) rfl ?_); refine box_event ?hg (N := 2) ?hd (cs := #[.int .i64 a0_0, .slice A0_1 l0_1.length c0_1]) (t := 58) ?hr ?_; (case hd => rfl); (case hg => rfl); (case hr => first | (go_simp; done) | (go_simp; rfl)); intro gb204 hg w10 hbox hb; have BK204 := Aside0.mk (hbox); have GW204 := gS HB hg; have GE204 := gS HB hg; replace HB := bS HB hb; clear hb hbox hg) | ((with_reducible refine gate_dst (N := 3) rfl ?_); refine box_event ?hg (N := 3) ?hd (cs := #[.int .i64 a1_0, .slice A1_1 l1_1.length c1_1]) (t := 58) ?hr ?_; (case hd => rfl); (case hg => rfl); (case hr => first | (go_simp; done) | (go_simp; rfl)); intro gb205 hg w11 hbox hb; have BK205 := Aside0.mk (hbox); have GW205 := gS HB hg; have GE205 := gS HB hg; replace HB := bS HB hb; have NB204_205 := nL BK204 hg; have NB205_204 := nR BK204 hg; replace BK204 := kB BK204 hb; clear hb hbox hg; have hnb12 := NB204_205.out; have hnc12 := NB205_204.out; have hcz13_0 := bc0 BK204; have hcz13_1 := bc1 BK204; have hfz13_0 := bf BK204 0; have hfz13_1 := bf BK204 1; have hcz14_0 := bc0 BK205; have hcz14_1 := bc1 BK205; have hfz14_0 := bf BK205 0; have hfz14_1 := bf BK205 1))
  go_ret
  exact ⟨zE, zB HB⟩
/-! ### impl_EqualMessages_all: functions 38 and 39 (by hand) -/
def impl_EqualMessages_all.f (k : Nat) (l0 l1 : List (S58)) : Option (Bool) := impl_Value.f (inst_ := ⟨fun k_ x0 x1 x2 x3 => impl_EqualMessages_lit.f k_ x0 x1 x2 x3, fun x0 x1 x2 x3 k_ => impl_EqualMessages_lit.mono x0 x1 x2 x3 k_⟩) k l0 l1
theorem impl_EqualMessages_all.mono : ∀ a0 a1 k, LeO (impl_EqualMessages_all.f k a0 a1) (impl_EqualMessages_all.f (k + 1) a0 a1) := impl_Value.mono (inst_ := ⟨fun k_ x0 x1 x2 x3 => impl_EqualMessages_lit.f k_ x0 x1 x2 x3, fun x0 x1 x2 x3 k_ => impl_EqualMessages_lit.mono x0 x1 x2 x3 k_⟩)
theorem impl_EqualMessages_all.calls (k : Nat) (A0 : Option Addr) (c0 : Nat) (l0 : List (S58)) (A1 : Option Addr) (c1 : Nat) (l1 : List (S58)) (r : Bool) (w : World) (hr0 : Kd.C k58 w A0 l0.length l0) (hc0 : l0.length ≤ c0) (hr1 : Kd.C k58 w A1 l1.length l1) (hc1 : l1.length ≤ c1) (h : impl_EqualMessages_all.f k l0 l1 = some r) :
  Calls Try.prog 38 #[.slice A0 l0.length c0, .slice A1 l1.length c1, .func (.func 39) #[] #[]] w fun e w' => e = .returned (.bool r) ∧ Below w.heap.size w w' :=
 impl_Value.calls (inst_ := ⟨fun k_ x0 x1 x2 x3 => impl_EqualMessages_lit.f k_ x0 x1 x2 x3, fun x0 x1 x2 x3 k_ => impl_EqualMessages_lit.mono x0 x1 x2 x3 k_⟩) k A0 c0 l0 A1 c1 l1 r w hr0 hc0 hr1 hc1 Try.func39 (by kernel_rfl) rfl (lb_ := #[]) (fun k a0_0 A0_1 c0_1 l0_1 a1_0 A1_1 c1_1 l1_1 r W hb_ hr0_1 hc0_1 hr1_1 hc1_1 hf => impl_EqualMessages_lit.calls k a0_0 A0_1 c0_1 l0_1 a1_0 A1_1 c1_1 l1_1 r W hr0_1 hc0_1 hr1_1 hc1_1 hf) h
/-! ### impl_EqualMessages: function 22 -/
def impl_EqualMessages.f (k : Nat) (l0 : List (S58)) (l1 : List (S58)) : Option (Bool) := (impl_EqualMessages_all.f k l0 l1).bind fun t207 => (some t207)
theorem impl_EqualMessages.mono : ∀ a0 a1 k, LeO (impl_EqualMessages.f k a0 a1) (impl_EqualMessages.f (k + 1) a0 a1) := by
 intro a0 a1 k
 unfold impl_EqualMessages.f
 repeat' first
   | (with_reducible exact impl_EqualMessages_all.mono _ _ _)
   | (with_reducible exact LeO.refl _)
   | (with_reducible exact LeO.none _)
   | (with_reducible refine LeO.ite ?_ ?_)
   | (with_reducible refine LeO.bind ?_ (fun _ => ?_))
   | exact impl_EqualMessages_all.mono _ _ _
   | exact LeO.none _
   | refine LeO.ite ?_ ?_
   | refine LeO.bind ?_ (fun _ => ?_)
set_option maxHeartbeats 8000000 in
set_option maxRecDepth 100000 in
theorem impl_EqualMessages.calls (k : Nat) (A0 : Option Addr) (c0 : Nat) (l0 : List (S58)) (A1 : Option Addr) (c1 : Nat) (l1 : List (S58)) (r : Bool) (w : World) (hr0 : Kd.C k58 w A0 l0.length l0) (hc0 : l0.length ≤ c0) (hr1 : Kd.C k58 w A1 l1.length l1) (hc1 : l1.length ≤ c1) (h : impl_EqualMessages.f k l0 l1 = some r) :
  Calls Try.prog 22 #[.slice A0 l0.length c0, .slice A1 l1.length c1] w fun e w' => e = .returned (.bool r) ∧ Below w.heap.size w w' := by
 have HR0 := Aside0.mk hr0
 have HC0 := Aside0.mk hc0
 clear hr0 hc0
 have HR1 := Aside0.mk hr1
 have HC1 := Aside0.mk hc1
 clear hr1 hc1
 have HB := Aside0.mk (Below.refl w.heap.size w)
 have H : ((impl_EqualMessages_all.f k l0 l1).bind fun t207 => (some t207)) = some r := h
 clear h
 obtain ⟨t207, A3, H⟩ := bindS H
 obtain rfl := Option.some.inj H
 go_enter Try.func22, Try.ntmps22
 go_wp2_with (first | ((with_reducible refine gate_callee (f := 38) rfl ?_); refine goesL_ (some 7) rfl rfl Try.func38 (by kernel_rfl) rfl #[.slice A0 l0.length c0, .slice A1 l1.length c1, .func (.func 39) #[] #[]] rfl zG ?_; (with_reducible refine (impl_EqualMessages_all.calls k _ _ l0 _ _ l1 t207 _ ?side1 ?side2 ?side3 ?side4 A3.out).mono ?_); (case side1 => exact cT HR0); (case side2 => exact HC0.out); (case side3 => exact cT HR1); (case side4 => exact HC1.out); rintro e w4 ⟨rfl, hb⟩; refine ⟨_, rfl, ?_⟩; replace HB := bS HB hb; (try clear hb)))
 go_ret
 exact ⟨zE, zB HB⟩

/-! ### slices_Clone_int_int: function 63 (by hand) -/
def slices_Clone_int_int.f (l0 : List Int) : Option (List Int) := if l0.length * 8 ≤ 140737488355328 then some l0 else none
theorem slices_Clone_int_int.calls (A0 : Option Addr) (c0 : Nat) (l0 : List Int) (r : List Int) (w : World) (hr0 : Kd.C (Kd.int .i64) w A0 l0.length l0) (hc0 : l0.length ≤ c0) (h : slices_Clone_int_int.f l0 = some r) :
  Calls Try.prog 63 #[.slice A0 l0.length c0] w fun e w' => ∃ v0_ : Value, e = .returned (v0_) ∧ Kd.R (Kd.int .i64) 3 w' w.heap.size (fun _ => True) v0_ r ∧ Below w.heap.size w w' := by
 unfold slices_Clone_int_int.f at h
 by_cases hl : l0.length * 8 ≤ 140737488355328
 ·rw [if_pos hl] at h
  exact Go.Proofs.Yticpmgofegaaeaa.Hs.clone_calls (fun b off n c zs w hz hb hc => Any.slices_Clone_int Try.laysNm215 b off n c zs w hz hb hc) (fun n c w => Any.slices_Clone_int_nil Try.laysNm215 n c w) (fun a c w => Any.slices_Clone_int_zero Try.laysNm215 a c w) A0 c0 l0 r w hr0 hl (Option.some.inj h)
 ·rw [if_neg hl] at h; cases h

end Go.Proofs.Yticpmgofegaaeaa.PFnDiffers
