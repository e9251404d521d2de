-- WRITTEN by pp.py, this session's own wrapper around the print; not trusted: Lean checks it
import Derived.Test.YticpmgofegaaeaaPFnExactLostByx0
import Derived.Test.YticpmgofegaaeaaPFnExactLostByx7
import Derived.Test.YticpmgofegaaeaaPFnExactLostByx8
import Derived.Test.YticpmgofegaaeaaPFnExactLostByx9
import Derived.Test.YticpmgofegaaeaaPFnExactLostByx10
namespace Go.Proofs.Yticpmgofegaaeaa.PFnExactLostBy
open Go.RowKit Go.Proofs.Yticpmgofegaaeaa.Hw Go.Proofs.YticpmgofegaaeaaW.PrintWords Go.Proofs.YticpmgofegaaeaaW.PrintLast Go.Proofs.YticpmgofegaaeaaW.PrintMore
attribute [local go_sem] max2_int min2_int max_two min_two max_three min_three max_four min_four   -- for this text's walks alone
set_option linter.unusedVariables false
set_option linter.unusedSimpArgs false
set_option linter.unusedSectionVars false

/-! ### impl_EncodeMessage: function 37 -/
def impl_EncodeMessage.l0 : Nat → List (S47) → List (S58) → List Int → List (S47) → Int → Int → Option (List Int × Bool)
 | 0, _, _, _, _, _, _ => none
 | k + 1, x0, x1, x6, x14, x15, x16 => if x16 < x15 then (if 0 ≤ x16 then (if x16 < (x14.length : Int) then ((impl_IsThere.f x0 x1 x16).bind fun t335 => (if t335 = true then (if ((rd_T47 x14 x16).f0) = 1 then (if x16 < (x1.length : Int) then (if x6.length < 17592186044416 then (impl_EncodeMessage.l0 k x0 x1 (x6 ++ [(rd_T58 x1 x16).f0]) x14 x15 (wrap64 (x16 + 1))) else (none)) else (none)) else (if x16 < (x1.length : Int) then (if x6.length < 17592186044416 then ((some (x6 ++ [(((rd_T58 x1 x16).f1).length : Int)] : List Int)).bind fun y341 => (if y341.length + ((rd_T58 x1 x16).f1).length < 17592186044416 then (impl_EncodeMessage.l0 k x0 x1 (y341 ++ ((rd_T58 x1 x16).f1)) x14 x15 (wrap64 (x16 + 1))) else (none))) else (none)) else (none))) else (impl_EncodeMessage.l0 k x0 x1 x6 x14 x15 (wrap64 (x16 + 1))))) else (none)) else (none)) else (some (x6, true))
def impl_EncodeMessage.f (k : Nat) (l0 : List (S47)) (l1 : List (S58)) : Option (List Int × Bool) := (impl_FitsFormat.f k l0 l1).bind fun t329 => (if t329 = true then (impl_EncodeMessage.l0 k l0 l1 (([] : List Int)) l0 (l0.length : Int) 0) else (some (([] : List Int), false)))
theorem impl_EncodeMessage.mono_l : ∀ k, (∀ y0 y1 y2 y3 y4 y5, LeO (impl_EncodeMessage.l0 k y0 y1 y2 y3 y4 y5) (impl_EncodeMessage.l0 (k + 1) y0 y1 y2 y3 y4 y5))
 | 0 => fun _ _ _ _ _ _ r h => by simp [impl_EncodeMessage.l0] at h
 | k + 1 => by
  have ih0 := impl_EncodeMessage.mono_l k
  ·intro y0 y1 y2 y3 y4 y5
   unfold impl_EncodeMessage.l0
   repeat' first
   | (with_reducible exact ih0 _ _ _ _ _ _)
   | (with_reducible exact impl_FitsFormat.mono _ _ _)
   | (with_reducible exact LeO.refl _)
   | (with_reducible exact LeO.none _)
   | (with_reducible refine LeO.ite ?_ ?_)
   | (with_reducible refine LeO.bind ?_ (fun _ => ?_))
   | exact ih0 _ _ _ _ _ _
   | exact impl_FitsFormat.mono _ _ _
   | exact LeO.none _
   | refine LeO.ite ?_ ?_
   | refine LeO.bind ?_ (fun _ => ?_)
theorem impl_EncodeMessage.mono : ∀ a0 a1 k, LeO (impl_EncodeMessage.f k a0 a1) (impl_EncodeMessage.f (k + 1) a0 a1) := by
 intro a0 a1 k
 have ih0 := impl_EncodeMessage.mono_l k
 unfold impl_EncodeMessage.f
 repeat' first
   | (with_reducible exact ih0 _ _ _ _ _ _)
   | (with_reducible exact impl_FitsFormat.mono _ _ _)
   | (with_reducible exact LeO.refl _)
   | (with_reducible exact LeO.none _)
   | (with_reducible refine LeO.ite ?_ ?_)
   | (with_reducible refine LeO.bind ?_ (fun _ => ?_))
   | exact ih0 _ _ _ _ _ _
   | exact impl_FitsFormat.mono _ _ _
   | exact LeO.none _
   | refine LeO.ite ?_ ?_
   | refine LeO.bind ?_ (fun _ => ?_)
def impl_EncodeMessage.T7 : Bool × List (List Nat × List Nat) := (true, [([], []), ([], []), ([], []), ([1, 2], [1, 2]), ([3], [3]), ([4], [4]), ([5], [5]), ([6], [6]), ([0, 7], [0, 7]), ([], []), ([], []), ([9, 10], [9, 10]), ([11], [11]), ([12], [12]), ([8, 13, 8], [8, 13]), ([14, 14, 0, 1, 2, 3, 4, 5, 6, 7, 8, 9, 10, 11, 12, 13, 14], [0, 14])])
def impl_EncodeMessage.B7 : List Nat := [0, 0, 0, 6, 14, 30, 62, 126, 255, 0, 0, 1536, 3584, 7680, 16383, 32767]
theorem impl_EncodeMessage.tab7 : rtab .any (opsOf Try.f37 7) = impl_EncodeMessage.T7 := by kernel_rfl
theorem impl_EncodeMessage.bits7 : waitsOk impl_EncodeMessage.T7.2 impl_EncodeMessage.B7 = true := by kernel_rfl
set_option maxHeartbeats 8000000 in
set_option maxRecDepth 100000 in
theorem impl_EncodeMessage.calls (k : Nat) (A0 : Option Addr) (c0 : Nat) (l0 : List (S47)) (A1 : Option Addr) (c1 : Nat) (l1 : List (S58)) (r1 : List Int) (r2 : Bool) (w : World) (hr0 : Kd.C k47 w A0 l0.length l0) (hc0 : l0.length ≤ c0) (hr1 : Kd.C k58 w A1 l1.length l1) (hc1 : l1.length ≤ c1) (h : impl_EncodeMessage.f k l0 l1 = some (r1, r2)) :
  Calls Try.prog 37 #[.slice A0 l0.length c0, .slice A1 l1.length c1] w fun e w' => ∃ v0_ : Value, e = .returned (.tuple #[v0_, .bool r2]) ∧ Kd.R (Kd.int .i64) 3 w' w.heap.size (fun _ => True) v0_ r1 ∧ Below w.heap.size w w' := by
 have hu47 := Try.underlying47
 have HR0 := Aside0.mk hr0
 have HC0 := Aside0.mk hc0
 clear hr0 hc0
 have HR1 := Aside0.mk hr1
 have HC1 := Aside0.mk hc1
 clear hr1 hc1
 have HB := Aside0.mk (Below.refl w.heap.size w)
 have H : ((impl_FitsFormat.f k l0 l1).bind fun t329 => (if t329 = true then (impl_EncodeMessage.l0 k l0 l1 (([] : List Int)) l0 (l0.length : Int) 0) else (some (([] : List Int), false)))) = some (r1, r2) := h
 clear h
 obtain ⟨t329, A3, H⟩ := bindS H
 by_cases c4 : t329 = true
 ·subst c4
  have H1 : (impl_EncodeMessage.l0 k l0 l1 (([] : List Int)) l0 (l0.length : Int) 0) = some (r1, r2) := by rw [if_pos rfl] at H; exact H
  clear H
  have H := H1
  clear H1
  obtain ⟨y330, hy330⟩ : ∃ y_ : List Int, y_ = (([] : List Int)) := ⟨_, rfl⟩
  replace H : (impl_EncodeMessage.l0 k l0 l1 y330 l0 (l0.length : Int) 0) = some (r1, r2) := by first | (rw [hy330]; with_reducible exact H) | (have H2_ := (Option.bind_some _ _).symm.trans H; rw [hy330]; with_reducible exact H2_) | (have H2_ := (Option.bind_some _ _).symm.trans H; with_reducible exact H2_) | with_reducible exact H | (rw [hy330]; exact H) | exact H
  have Ny330 := Aside0.mk hy330
  clear hy330
  have H' := Aside0.mk H
  clear H
  go_enter Try.func37, Try.ntmps37
  go_wp2_with (first | ((with_reducible refine gate_callee (f := 55) rfl ?_); refine goesL_ (some 11) rfl rfl Try.func55 (by kernel_rfl) rfl #[.slice A0 l0.length c0, .slice A1 l1.length c1] rfl zG ?_; (with_reducible refine (impl_FitsFormat.calls k _ _ l0 _ _ l1 true _ ?side1 ?side2 ?side3 ?side4 A3.out).mono ?_); (case side1 => exact cT HR0); (case side2 => exact HC0.out); (case side3 => exact cT HR1); (case side4 => exact HC1.out); rintro e w5 ⟨rfl, hb⟩; refine ⟨_, rfl, ?_⟩; replace HB := bS HB hb; (try clear hb)) | ((with_reducible refine gate_dst (N := 13) rfl ?_); refine Kd.R_lit (Kd.int .i64) _ 3 ?hg (N := 13) ?hd (xs := ([] : List Int)) (inner := []) (ok := fun _ => True) (okp := fun _ => True) ?hr ?hp (fun _ hk => hk) trivial (Below.refl _ _) (Nat.le_refl _) (by simp) ?_; (case hd => rfl); (case hg => rfl); (case hr => first | (go_simp; done) | (go_simp; rfl)); (case hp => exact (Reps.none _ _)); intro v331 w6 ho7 hb hg_ hnew_; clear hg_ hnew_; (first | rw [← Ny330.out] at ho7 | (simp only [Int.reduceToNat] at ho7; rw [← Ny330.out] at ho7)); have HO332 := Aside0.mk (Kd.R_lower ho7 (below_size (zB HB))); replace HB := bS HB hb; clear hb ho7))
  go_loopg [6, 16] k (fun kq v6 v16 w' => ∃ (x6_1 : List Int) (x16_1 : Int), v16 = .int .i64 x16_1 ∧ Aside0 (impl_EncodeMessage.l0 kq l0 l1 x6_1 l0 (l0.length : Int) x16_1 = some (r1, r2)) ∧ Aside0 (kq ≤ k) ∧ Aside0 (Kd.R (Kd.int .i64) 3 w' w.heap.size (fun _ => True) v6 x6_1) ∧ Aside0 (Below w.heap.size w w'))
  case atStart => exact ⟨(y330), (0), zF, H', ⟨Nat.le_refl _⟩, ⟨zR HO332⟩, ⟨zB HB⟩⟩
  case round =>
   clear H'
   try clear c1
   try clear p2
   try clear c3
   try clear c4
   try clear c5
   obtain ⟨x6_1, x16_1, rfl, HA, HK1, HO_6, HB⟩ := hrel
   cases gk with
   | zero => exact absurd HA.out (by simp [impl_EncodeMessage.l0])
   | succ k1 =>
    have H := HA.out
    clear HA
    simp only [impl_EncodeMessage.l0] at H
    by_cases c8 : x16_1 < (l0.length : Int)
    ·rw [if_pos c8] at H
     have c8b0 : decide (x16_1 < (l0.length : Int)) = true := decide_eq_true c8
     clear c8
     obtain ⟨c9, H⟩ := ifS H
     have c9b0 : decide (0 ≤ x16_1) = true := decide_eq_true c9
     clear c9
     obtain ⟨c10, H⟩ := ifS H
     have c10b0 : decide (x16_1 < (l0.length : Int)) = true := decide_eq_true c10
     clear c10
     obtain ⟨t335, A11, H⟩ := bindS H
     by_cases c12 : t335 = true
     ·subst c12
      have H1 : (if ((rd_T47 l0 x16_1).f0) = 1 then (if x16_1 < (l1.length : Int) then (if x6_1.length < 17592186044416 then (impl_EncodeMessage.l0 k1 l0 l1 (x6_1 ++ [(rd_T58 l1 x16_1).f0]) l0 (l0.length : Int) (wrap64 (x16_1 + 1))) else (none)) else (none)) else (if x16_1 < (l1.length : Int) then (if x6_1.length < 17592186044416 then ((some (x6_1 ++ [(((rd_T58 l1 x16_1).f1).length : Int)] : List Int)).bind fun y341 => (if y341.length + ((rd_T58 l1 x16_1).f1).length < 17592186044416 then (impl_EncodeMessage.l0 k1 l0 l1 (y341 ++ ((rd_T58 l1 x16_1).f1)) l0 (l0.length : Int) (wrap64 (x16_1 + 1))) else (none))) else (none)) else (none))) = some (r1, r2) := by rw [if_pos rfl] at H; exact H
      clear H
      have H := H1
      clear H1
      by_cases c13 : ((rd_T47 l0 x16_1).f0) = 1
      ·rw [if_pos c13] at H
       have c13b0 : (((rd_T47 l0 x16_1).f0) == 1) = true := beq_iff_eq.mpr c13
       have c13b1 : (((rd_T47 l0 x16_1).f0) != 1) = false := bne_eq_false_iff_eq.mpr c13
       clear c13
       obtain ⟨c14, H⟩ := ifS H
       have c14b0 : decide (x16_1 < (l1.length : Int)) = true := decide_eq_true c14
       clear c14
       obtain ⟨c15, H⟩ := ifS H
       have LMc15 := Aside0.mk c15
       clear c15
       obtain ⟨y337, hy337⟩ : ∃ y_ : List Int, y_ = (x6_1 ++ [(rd_T58 l1 x16_1).f0]) := ⟨_, rfl⟩
       replace H : (impl_EncodeMessage.l0 k1 l0 l1 y337 l0 (l0.length : Int) (wrap64 (x16_1 + 1))) = some (r1, r2) := by first | (rw [hy337]; with_reducible exact H) | (have H2_ := (Option.bind_some _ _).symm.trans H; rw [hy337]; with_reducible exact H2_) | (have H2_ := (Option.bind_some _ _).symm.trans H; with_reducible exact H2_) | with_reducible exact H | (rw [hy337]; exact H) | exact H
       have Ny337 := Aside0.mk hy337
       clear hy337
       have H' := Aside0.mk H
       clear H
       have p333 : 0 ≤ (x16_1 : Int) := zD
       have q333 : x16_1 < (l0.length : Int) := zD
       obtain ⟨ad333, e333, hx333_0, hx333_1, hx333_2, hx333_3⟩ := at_T47 HR0.out x16_1 p333 q333
       cases e333
       replace hx333_0 := hL HB hx333_0
       replace hx333_1 := hL HB hx333_1
       replace hx333_2 := hL HB hx333_2
       replace hx333_3 := hL HB hx333_3
       replace p333 := eq_true p333
       replace q333 := eq_true q333
       go_wp2_with (first | ((with_reducible refine gate_dst (N := 8) rfl ?_); refine box_event ?hg (N := 8) ?hd (cs := #[.int .i64 0, .int .i64 0, .int .i64 0, .int .i64 0]) (t := 47) ?hr ?_; (case hd => rfl); (case hg => rfl); (case hr => first | (go_simp; done) | (go_simp; rfl)); intro gb334 hg w16 hbox hb; replace HO_6 := Aside0.mk (Kd.R_below (zR HO_6) hb); have BK334 := Aside0.mk (hbox); have GW334 := gS HB hg; have GE334 := gS HB hg; replace HB := bS HB hb; clear hb hbox hg; have hcz17_0 := bc0 BK334; have hcz17_1 := bc1 BK334; have hcz17_2 := bc2 BK334; have hcz17_3 := bc3 BK334; have hfz17_0 := bf BK334 0; have hfz17_1 := bf BK334 1; have hfz17_2 := bf BK334 2; have hfz17_3 := bf BK334 3) | ((with_reducible refine gate_callee (f := 42) rfl ?_); refine goesL_ (some 40) rfl rfl Try.func42 (by kernel_rfl) rfl #[.slice (some ad333) l0.length c0, .slice A1 l1.length c1, .int .i64 x16_1] rfl zG ?_; (with_reducible refine (impl_IsThere.calls _ _ l0 _ _ l1 x16_1 true _ ?side1 ?side2 ?side3 ?side4 A11.out).mono ?_); (case side1 => exact Kd.C_below HR0.out (zB HB)); (case side2 => exact HC0.out); (case side3 => exact Kd.C_below HR1.out (zB HB)); (case side4 => exact HC1.out); rintro e w18 ⟨rfl, hb⟩; refine ⟨_, rfl, ?_⟩; replace HO_6 := Aside0.mk (Kd.R_below (by (with_reducible repeat (first | apply Kd.R_alloc | apply Kd.R_drewN | apply Kd.R_drew)); exact (Kd.R_mono (Kd.R_far (p := ⟨gb334, 3, none⟩) (Kd.R_far (p := ⟨gb334, 2, none⟩) (Kd.R_far (p := ⟨gb334, 1, none⟩) (Kd.R_far (p := ⟨gb334, 0, none⟩) (Kd.R_types HO_6.out BK334.out (by decide)) (fun _ hk => hk.2) (.int .i64 ((rd_T47 l0 x16_1).f0))) (fun _ hk => hk.2) (.int .i64 ((rd_T47 l0 x16_1).f1))) (fun _ hk => hk.2) (.int .i64 ((rd_T47 l0 x16_1).f2))) (fun _ hk => hk.2) (.int .i64 ((rd_T47 l0 x16_1).f3))) (fun _ h_ => h_.1))) hb); replace BK334 := Aside0.mk (blk_below (g := gb334) (o := .cells #[.int .i64 ((rd_T47 l0 x16_1).f0), .int .i64 ((rd_T47 l0 x16_1).f1), .int .i64 ((rd_T47 l0 x16_1).f2), .int .i64 ((rd_T47 l0 x16_1).f3)] 47 (0, 0)) (by (with_reducible repeat (first | refine blk_drewN ?_ _ | refine blk_drew ?_ | refine blk_alloc ?_ _)); refine blk_put (cs := #[.int .i64 ((rd_T47 l0 x16_1).f0), .int .i64 ((rd_T47 l0 x16_1).f1), .int .i64 ((rd_T47 l0 x16_1).f2), .int .i64 0]) ?_ 3 _ rfl; (with_reducible repeat (first | refine blk_drewN ?_ _ | refine blk_drew ?_ | refine blk_alloc ?_ _)); refine blk_put (cs := #[.int .i64 ((rd_T47 l0 x16_1).f0), .int .i64 ((rd_T47 l0 x16_1).f1), .int .i64 0, .int .i64 0]) ?_ 2 _ rfl; (with_reducible repeat (first | refine blk_drewN ?_ _ | refine blk_drew ?_ | refine blk_alloc ?_ _)); refine blk_put (cs := #[.int .i64 ((rd_T47 l0 x16_1).f0), .int .i64 0, .int .i64 0, .int .i64 0]) ?_ 1 _ rfl; (with_reducible repeat (first | refine blk_drewN ?_ _ | refine blk_drew ?_ | refine blk_alloc ?_ _)); refine blk_put (cs := #[.int .i64 0, .int .i64 0, .int .i64 0, .int .i64 0]) ?_ 0 _ rfl; (with_reducible repeat (first | refine blk_drewN ?_ _ | refine blk_drew ?_ | refine blk_alloc ?_ _)); exact BK334.out) hb); replace HB := bS HB hb; (try clear hb); have hcz19_0 := bc0 BK334; have hcz19_1 := bc1 BK334; have hcz19_2 := bc2 BK334; have hcz19_3 := bc3 BK334; have hfz19_0 := bf BK334 0; have hfz19_1 := bf BK334 1; have hfz19_2 := bf BK334 2; have hfz19_3 := bf BK334 3; have p336 : 0 ≤ (x16_1 : Int) := zD; have q336 : x16_1 < (l1.length : Int) := zD; obtain ⟨ad336, A336_1, c336_1, e336, hx336_0, hx336_1, hl336_1, hi336_1⟩ := at_T58 HR1.out x16_1 p336 q336; cases e336; replace hx336_0 := hL HB hx336_0; replace hx336_1 := hL HB hx336_1; have HR336_1 := Aside0.mk hi336_1; have HC336_1 := Aside0.mk hl336_1; clear hi336_1 hl336_1; replace p336 := eq_true p336; replace q336 := eq_true q336) | ((with_reducible refine gate_builtin (b := .append) (xs := #[.tmp 46, .tmp 52]) rfl ?_); at_builtin; refine Kd.R_append (Kd.int .i64) (w0 := w) w.heap.size rfl (.tmp 46) (.tmp 52) 37 3 (.int .i64 0) 8 rfl Try.underlying37 info3 rfl (by decide) (by omega) u6 x6_1 ((rd_T58 l1 x16_1).f0) [.int .i64 ((rd_T58 l1 x16_1).f0)] (fun _ => True) (fun _ => False) rfl rfl ?aP (fun _ hk => hk.elim) ?aF ?aO ?aB ?aS ?aL ?_; (case aP => exact rfl); (case aB => exact (zB HB)); (case aF => exact (fun _ _ => trivial)); (case aO => exact (zR HO_6)); (case aS => exact (below_size (zB HB))); (case aL => have := LMc15.out; omega); intro v338 w20 ho hb hg hat; rw [← Ny337.out] at ho; replace BK334 := Aside0.mk (blk_grown (g := gb334) (o := .cells #[.int .i64 ((rd_T47 l0 x16_1).f0), .int .i64 ((rd_T47 l0 x16_1).f1), .int .i64 ((rd_T47 l0 x16_1).f2), .int .i64 ((rd_T47 l0 x16_1).f3)] 47 (0, 0)) (zK BK334) hg (Kd.R_ne HO_6.out BK334.out (by decide))); replace HB := Aside0.mk (hb); have HO339 := Aside0.mk (ho); clear HO_6; clear ho hb hg hat))
       go_roundg k1
       case measure => have := HK1.out; omega
       case rel => exact ⟨(y337), (wrap64 (x16_1 + 1)), zF, H', ⟨by have := HK1.out; omega⟩, ⟨zR HO339⟩, ⟨zB HB⟩⟩
      ·rw [if_neg c13] at H
       have c13b0 : (((rd_T47 l0 x16_1).f0) == 1) = false := beq_eq_false_iff_ne.mpr c13
       have c13b1 : (((rd_T47 l0 x16_1).f0) != 1) = true := bne_iff_ne.mpr c13
       obtain ⟨c21, H⟩ := ifS H
       have c21b0 : decide (x16_1 < (l1.length : Int)) = true := decide_eq_true c21
       clear c21
       obtain ⟨c22, H⟩ := ifS H
       have LMc22 := Aside0.mk c22
       clear c22
       obtain ⟨y341, hy341⟩ : ∃ y_ : List Int, y_ = (x6_1 ++ [(((rd_T58 l1 x16_1).f1).length : Int)]) := ⟨_, rfl⟩
       replace H : (if y341.length + ((rd_T58 l1 x16_1).f1).length < 17592186044416 then (impl_EncodeMessage.l0 k1 l0 l1 (y341 ++ ((rd_T58 l1 x16_1).f1)) l0 (l0.length : Int) (wrap64 (x16_1 + 1))) else (none)) = some (r1, r2) := by first | (rw [hy341]; with_reducible exact H) | (have H2_ := (Option.bind_some _ _).symm.trans H; rw [hy341]; with_reducible exact H2_) | (have H2_ := (Option.bind_some _ _).symm.trans H; with_reducible exact H2_) | with_reducible exact H | (rw [hy341]; exact H) | exact H
       have Ny341 := Aside0.mk hy341
       clear hy341
       obtain ⟨c23, H⟩ := ifS H
       have LMc23 := Aside0.mk c23
       clear c23
       obtain ⟨y345, hy345⟩ : ∃ y_ : List Int, y_ = (y341 ++ ((rd_T58 l1 x16_1).f1)) := ⟨_, rfl⟩
       replace H : (impl_EncodeMessage.l0 k1 l0 l1 y345 l0 (l0.length : Int) (wrap64 (x16_1 + 1))) = some (r1, r2) := by first | (rw [hy345]; with_reducible exact H) | (have H2_ := (Option.bind_some _ _).symm.trans H; rw [hy345]; with_reducible exact H2_) | (have H2_ := (Option.bind_some _ _).symm.trans H; with_reducible exact H2_) | with_reducible exact H | (rw [hy345]; exact H) | exact H
       have Ny345 := Aside0.mk hy345
       clear hy345
       have H' := Aside0.mk H
       clear H
       have p333 : 0 ≤ (x16_1 : Int) := zD
       have q333 : x16_1 < (l0.length : Int) := zD
       obtain ⟨ad333, e333, hx333_0, hx333_1, hx333_2, hx333_3⟩ := at_T47 HR0.out x16_1 p333 q333
       cases e333
       replace hx333_0 := hL HB hx333_0
       replace hx333_1 := hL HB hx333_1
       replace hx333_2 := hL HB hx333_2
       replace hx333_3 := hL HB hx333_3
       replace p333 := eq_true p333
       replace q333 := eq_true q333
       try go_wp2_with (first | ((with_reducible refine gate_dst (N := 8) rfl ?_); refine box_event ?hg (N := 8) ?hd (cs := #[.int .i64 0, .int .i64 0, .int .i64 0, .int .i64 0]) (t := 47) ?hr ?_; (case hd => rfl); (case hg => rfl); (case hr => first | (go_simp; done) | (go_simp; rfl)); intro gb334 hg w24 hbox hb; replace HO_6 := Aside0.mk (Kd.R_below (zR HO_6) hb); have BK334 := Aside0.mk (hbox); have GW334 := gS HB hg; have GE334 := gS HB hg; replace HB := bS HB hb; clear hb hbox hg; have hcz25_0 := bc0 BK334; have hcz25_1 := bc1 BK334; have hcz25_2 := bc2 BK334; have hcz25_3 := bc3 BK334; have hfz25_0 := bf BK334 0; have hfz25_1 := bf BK334 1; have hfz25_2 := bf BK334 2; have hfz25_3 := bf BK334 3) | ((with_reducible refine gate_callee (f := 42) rfl ?_); refine goesL_ (some 40) rfl rfl Try.func42 (by kernel_rfl) rfl #[.slice (some ad333) l0.length c0, .slice A1 l1.length c1, .int .i64 x16_1] rfl zG ?_; (with_reducible refine (impl_IsThere.calls _ _ l0 _ _ l1 x16_1 true _ ?side1 ?side2 ?side3 ?side4 A11.out).mono ?_); (case side1 => exact Kd.C_below HR0.out (zB HB)); (case side2 => exact HC0.out); (case side3 => exact Kd.C_below HR1.out (zB HB)); (case side4 => exact HC1.out); rintro e w26 ⟨rfl, hb⟩; refine ⟨_, rfl, ?_⟩; replace HO_6 := Aside0.mk (Kd.R_below (by (with_reducible repeat (first | apply Kd.R_alloc | apply Kd.R_drewN | apply Kd.R_drew)); exact (Kd.R_mono (Kd.R_far (p := ⟨gb334, 3, none⟩) (Kd.R_far (p := ⟨gb334, 2, none⟩) (Kd.R_far (p := ⟨gb334, 1, none⟩) (Kd.R_far (p := ⟨gb334, 0, none⟩) (Kd.R_types HO_6.out BK334.out (by decide)) (fun _ hk => hk.2) (.int .i64 ((rd_T47 l0 x16_1).f0))) (fun _ hk => hk.2) (.int .i64 ((rd_T47 l0 x16_1).f1))) (fun _ hk => hk.2) (.int .i64 ((rd_T47 l0 x16_1).f2))) (fun _ hk => hk.2) (.int .i64 ((rd_T47 l0 x16_1).f3))) (fun _ h_ => h_.1))) hb); replace BK334 := Aside0.mk (blk_below (g := gb334) (o := .cells #[.int .i64 ((rd_T47 l0 x16_1).f0), .int .i64 ((rd_T47 l0 x16_1).f1), .int .i64 ((rd_T47 l0 x16_1).f2), .int .i64 ((rd_T47 l0 x16_1).f3)] 47 (0, 0)) (by (with_reducible repeat (first | refine blk_drewN ?_ _ | refine blk_drew ?_ | refine blk_alloc ?_ _)); refine blk_put (cs := #[.int .i64 ((rd_T47 l0 x16_1).f0), .int .i64 ((rd_T47 l0 x16_1).f1), .int .i64 ((rd_T47 l0 x16_1).f2), .int .i64 0]) ?_ 3 _ rfl; (with_reducible repeat (first | refine blk_drewN ?_ _ | refine blk_drew ?_ | refine blk_alloc ?_ _)); refine blk_put (cs := #[.int .i64 ((rd_T47 l0 x16_1).f0), .int .i64 ((rd_T47 l0 x16_1).f1), .int .i64 0, .int .i64 0]) ?_ 2 _ rfl; (with_reducible repeat (first | refine blk_drewN ?_ _ | refine blk_drew ?_ | refine blk_alloc ?_ _)); refine blk_put (cs := #[.int .i64 ((rd_T47 l0 x16_1).f0), .int .i64 0, .int .i64 0, .int .i64 0]) ?_ 1 _ rfl; (with_reducible repeat (first | refine blk_drewN ?_ _ | refine blk_drew ?_ | refine blk_alloc ?_ _)); refine blk_put (cs := #[.int .i64 0, .int .i64 0, .int .i64 0, .int .i64 0]) ?_ 0 _ rfl; (with_reducible repeat (first | refine blk_drewN ?_ _ | refine blk_drew ?_ | refine blk_alloc ?_ _)); exact BK334.out) hb); replace HB := bS HB hb; (try clear hb); have hcz27_0 := bc0 BK334; have hcz27_1 := bc1 BK334; have hcz27_2 := bc2 BK334; have hcz27_3 := bc3 BK334; have hfz27_0 := bf BK334 0; have hfz27_1 := bf BK334 1; have hfz27_2 := bf BK334 2; have hfz27_3 := bf BK334 3))
       replace HO_6 := Aside0.mk (Kd.R_drew HO_6.out)
       replace BK334 := Aside0.mk (blk_drew BK334.out)
       replace HB := Aside0.mk (below_drew1 HB.out)
       have p340 : 0 ≤ (x16_1 : Int) := zD
       have q340 : x16_1 < (l1.length : Int) := zD
       obtain ⟨ad340, A340_1, c340_1, e340, hx340_0, hx340_1, hl340_1, hi340_1⟩ := at_T58 HR1.out x16_1 p340 q340
       have hw340_1 := hx340_1
       have hw340_0 := hx340_0
       cases e340
       replace hx340_0 := hL HB hx340_0
       replace hx340_1 := hL HB hx340_1
       have HR340_1 := Aside0.mk hi340_1
       have HC340_1 := Aside0.mk hl340_1
       clear hi340_1 hl340_1
       replace p340 := eq_true p340
       replace q340 := eq_true q340
       have p344 : 0 ≤ (x16_1 : Int) := zD
       have q344 : x16_1 < (l1.length : Int) := zD
       obtain ⟨ad344, A344_1, c344_1, e344, hx344_0, hx344_1, hl344_1, hi344_1⟩ := at_T58 HR1.out x16_1 p344 q344
       have hw344_1 := hx344_1
       have hw344_0 := hx344_0
       obtain rfl : ad340 = ad344 := (by injection e344)
       replace hx344_0 := hL HB hx344_0
       replace hx344_1 := hL HB hx344_1
       have HR344_1 := Aside0.mk hi344_1
       have HC344_1 := Aside0.mk hl344_1
       clear hi344_1 hl344_1
       replace p344 := eq_true p344
       replace q344 := eq_true q344
       have ea_ := Option.some.inj (hx340_1.symm.trans hx344_1)
       injection ea_ with ea_ en_ ec_
       subst ea_
       subst ec_
       clear en_
       refine start_ (n := 16) (S := fun w' => w'.cell? (ad340.add ((x16_1).toNat * 2)) = some (.int .i64 ((rd_T58 l1 x16_1).f0)) ∧ w'.cell? ⟨(ad340.add ((x16_1).toNat * 2)).block, (ad340.add ((x16_1).toNat * 2)).off + 1, none⟩ = some (.slice A340_1 ((rd_T58 l1 x16_1).f1).length c340_1) ∧ w'.cell? (ad340.add ((x16_1).toNat * 2)) = some (.int .i64 ((rd_T58 l1 x16_1).f0)) ∧ w'.cell? ⟨(ad340.add ((x16_1).toNat * 2)).block, (ad340.add ((x16_1).toNat * 2)).off + 1, none⟩ = some (.slice A340_1 ((rd_T58 l1 x16_1).f1).length c340_1)) (ds := []) (bm 16 0) (by kernel_rfl) rfl (bm0 _) ⟨(hL HB hw340_0), (hL HB hw340_1), (hL HB hw344_0), (hL HB hw344_1)⟩ (fun hHeld => ?_); refine with_tabW impl_EncodeMessage.tab7 impl_EncodeMessage.bits7 (fun HT_ HW_ => ?_)
       generalize w26.drew = w28 at HO_6 BK334 HB HR340_1 HR344_1 hx340_0 hx340_1 hx344_0 hx344_1 hHeld ⊢
       refine pU 0 (some 21) (bm 16 1) HT_ rfl rfl ?_
       refine pU 1 (some 22) (bm 16 3) HT_ rfl rfl ?_
       refine pU 2 (some 23) (bm 16 7) HT_ rfl rfl ?_
       refine pU 3 (some 24) (bm 16 15) HT_ rfl rfl ?_
       refine pU 4 (some 25) (bm 16 31) HT_ rfl rfl ?_
       refine pU 9 (some 30) (bm 16 543) HT_ rfl rfl ?_
       refine pU 10 (some 31) (bm 16 1567) HT_ rfl rfl ?_
       refine pU 11 (some 32) (bm 16 3615) HT_ rfl rfl ?_
       refine pU 12 (some 33) (bm 16 7711) HT_ rfl rfl ?_
       refine tU 5 (some 26) (bm 16 7743) HT_ HW_ rfl rfl hHeld ?_
       refine pU 6 (some 27) (bm 16 7807) HT_ rfl rfl ?_
       refine tU 13 (some 34) (bm 16 15999) HT_ HW_ rfl rfl hHeld ?_
       refine one_ (i := 7) (N := some 28) (bm 16 16127) rfl rfl (one_of HT_.out (by kernel_rfl)) (by decide) (fun K hK => ?_)
       refine value_ (w1 := ?_) (v := ?_) (by rfl) rfl ?_ ?_
       rotate_left 2
       ·go_simp
        constructor
        ·rfl
        ·rfl
       refine hK.out _ _ ⟨(World.cell?_alloc_lt _ _ _ (World.block_lt_of_cell? _ _ ((hL HB hw340_0)))).trans ((hL HB hw340_0)), (World.cell?_alloc_lt _ _ _ (World.block_lt_of_cell? _ _ ((hL HB hw340_1)))).trans ((hL HB hw340_1)), (World.cell?_alloc_lt _ _ _ (World.block_lt_of_cell? _ _ ((hL HB hw344_0)))).trans ((hL HB hw344_0)), (World.cell?_alloc_lt _ _ _ (World.block_lt_of_cell? _ _ ((hL HB hw344_1)))).trans ((hL HB hw344_1))⟩ (fun hHeld => ?_)
       clear hK K
       refine norm_ (a' := ?_) ?_ ?_
       rotate_left
       ·show Act.put _ (some 28) _ = _
        simp only [Act.put, List.setIfInBounds_toArray, List.set_cons_zero, List.set_cons_succ, i64_w, i32_w]
        rfl
       refine one_ (i := 8) (N := some 29) (bm 16 16383) rfl rfl (one_of HT_.out (by kernel_rfl)) (by decide) (fun K hK => ?_)
       refine Kd.R_append_step (Kd.int .i64) (w0 := w) w.heap.size (by rfl) (.tmp 21) (.tmp 28) 37 3 (.int .i64 0) 8 rfl Try.underlying37 info3 rfl (by decide) (by omega) u6 x6_1 (((rd_T58 l1 x16_1).f1).length : Int) [.int .i64 (((rd_T58 l1 x16_1).f1).length : Int)] (fun _ => True) (fun _ => False) rfl rfl ?aP (fun _ hk => hk.elim) ?aF ?aO ?aB ?aS ?aL ?_
       (case aP => exact rfl)
       (case aB => exact (zB HB))
       (case aF => exact (fun _ _ => trivial))
       (case aO => exact (zR HO_6))
       (case aS => exact (below_size (zB HB)))
       (case aL => have := LMc22.out; omega)
       intro v342 w29 ho hb hg hat
       rw [← Ny341.out] at ho
       replace BK334 := Aside0.mk (blk_grown (g := gb334) (o := .cells #[.int .i64 ((rd_T47 l0 x16_1).f0), .int .i64 ((rd_T47 l0 x16_1).f1), .int .i64 ((rd_T47 l0 x16_1).f2), .int .i64 ((rd_T47 l0 x16_1).f3)] 47 (0, 0)) (zK BK334) hg (Kd.R_ne HO_6.out BK334.out (by decide)))
       replace HB := Aside0.mk (hb)
       have HO343 := Aside0.mk (ho)
       clear HO_6
       clear ho hb hg hat
       refine hK.out _ _ ⟨(hL HB hw340_0), (hL HB hw340_1), (hL HB hw344_0), (hL HB hw344_1)⟩ (fun hHeld => ?_)
       clear hK K
       refine norm_ (a' := ?_) ?_ ?_
       rotate_left
       ·show Act.put _ (some 29) _ = _
        simp only [Act.put, List.setIfInBounds_toArray, List.set_cons_zero, List.set_cons_succ, i64_w, i32_w]
        rfl
       refine one_ (i := 14) (N := some 35) (bm 16 32767) rfl rfl (one_of HT_.out (by kernel_rfl)) (by decide) (fun K hK => ?_)
       refine Kd.R_append_rows_step (Kd.int .i64) (w0 := w) w.heap.size (by rfl) (.tmp 29) (.tmp 34) 37 3 (.int .i64 0) 8 rfl Try.underlying37 info3 rfl (by decide) (by omega) v342 y341 ((rd_T58 l1 x16_1).f1) _ _ _ (fun _ => True) (fun _ => False) rfl rfl ?aO ?aR (fun _ _ h => h) (fun _ h => h.elim) ?aF ?aB ?aS ?aL ?_
       (case aR => repeat (first | exact (Kd.C_below HR344_1.out HB.out) | (with_reducible refine Kd.C_alloc ?_ _) | (with_reducible refine Kd.C_drewN ?_ _) | (with_reducible refine Kd.C_drew ?_)))
       (case aB => exact (zB HB))
       (case aF => exact (fun _ _ => trivial))
       (case aO => exact (zR HO343))
       (case aS => exact (below_size (zB HB)))
       (case aL => have := LMc23.out; omega)
       intro v346 w30 ho hb hg hat
       rw [← Ny345.out] at ho
       replace BK334 := Aside0.mk (blk_grown (g := gb334) (o := .cells #[.int .i64 ((rd_T47 l0 x16_1).f0), .int .i64 ((rd_T47 l0 x16_1).f1), .int .i64 ((rd_T47 l0 x16_1).f2), .int .i64 ((rd_T47 l0 x16_1).f3)] 47 (0, 0)) (zK BK334) hg (Kd.R_ne HO343.out BK334.out (by decide)))
       replace HB := Aside0.mk (hb)
       have HO347 := Aside0.mk (ho)
       clear HO343
       clear ho hb hg hat
       refine hK.out _ _ ⟨(hL HB hw340_0), (hL HB hw340_1), (hL HB hw344_0), (hL HB hw344_1)⟩ (fun hHeld => ?_)
       clear hK K
       refine norm_ (a' := ?_) ?_ ?_
       rotate_left
       ·show Act.put _ (some 35) _ = _
        simp only [Act.put, List.setIfInBounds_toArray, List.set_cons_zero, List.set_cons_succ, i64_w, i32_w]
        rfl
       refine pU 15 (some 6) (bm 16 65535) HT_ rfl rfl ?_
       refine done_ (done_of HT_.out (by kernel_rfl)) ?_
       try clear hHeld
       try go_wp2
       go_roundg k1
       case measure => have := HK1.out; omega
       case rel => exact ⟨(y345), (wrap64 (x16_1 + 1)), zF, H', ⟨by have := HK1.out; omega⟩, ⟨zR HO347⟩, ⟨zB HB⟩⟩
     ·replace c12 := Bool.eq_false_iff.mpr c12
      subst c12
      have H1 : (impl_EncodeMessage.l0 k1 l0 l1 x6_1 l0 (l0.length : Int) (wrap64 (x16_1 + 1))) = some (r1, r2) := by rw [if_neg (show ¬ (false = true) by decide)] at H; exact H
      clear H
      have H := H1
      clear H1
      have H' := Aside0.mk H
      clear H
      have p333 : 0 ≤ (x16_1 : Int) := zD
      have q333 : x16_1 < (l0.length : Int) := zD
      obtain ⟨ad333, e333, hx333_0, hx333_1, hx333_2, hx333_3⟩ := at_T47 HR0.out x16_1 p333 q333
      cases e333
      replace hx333_0 := hL HB hx333_0
      replace hx333_1 := hL HB hx333_1
      replace hx333_2 := hL HB hx333_2
      replace hx333_3 := hL HB hx333_3
      replace p333 := eq_true p333
      replace q333 := eq_true q333
      go_wp2_with (first | ((with_reducible refine gate_dst (N := 8) rfl ?_); refine box_event ?hg (N := 8) ?hd (cs := #[.int .i64 0, .int .i64 0, .int .i64 0, .int .i64 0]) (t := 47) ?hr ?_; (case hd => rfl); (case hg => rfl); (case hr => first | (go_simp; done) | (go_simp; rfl)); intro gb334 hg w31 hbox hb; replace HO_6 := Aside0.mk (Kd.R_below (zR HO_6) hb); have BK334 := Aside0.mk (hbox); have GW334 := gS HB hg; have GE334 := gS HB hg; replace HB := bS HB hb; clear hb hbox hg; have hcz32_0 := bc0 BK334; have hcz32_1 := bc1 BK334; have hcz32_2 := bc2 BK334; have hcz32_3 := bc3 BK334; have hfz32_0 := bf BK334 0; have hfz32_1 := bf BK334 1; have hfz32_2 := bf BK334 2; have hfz32_3 := bf BK334 3) | ((with_reducible refine gate_callee (f := 42) rfl ?_); refine goesL_ (some 40) rfl rfl Try.func42 (by kernel_rfl) rfl #[.slice (some ad333) l0.length c0, .slice A1 l1.length c1, .int .i64 x16_1] rfl zG ?_; (with_reducible refine (impl_IsThere.calls _ _ l0 _ _ l1 x16_1 false _ ?side1 ?side2 ?side3 ?side4 A11.out).mono ?_); (case side1 => exact Kd.C_below HR0.out (zB HB)); (case side2 => exact HC0.out); (case side3 => exact Kd.C_below HR1.out (zB HB)); (case side4 => exact HC1.out); rintro e w33 ⟨rfl, hb⟩; refine ⟨_, rfl, ?_⟩; replace HO_6 := Aside0.mk (Kd.R_below (by (with_reducible repeat (first | apply Kd.R_alloc | apply Kd.R_drewN | apply Kd.R_drew)); exact (Kd.R_mono (Kd.R_far (p := ⟨gb334, 3, none⟩) (Kd.R_far (p := ⟨gb334, 2, none⟩) (Kd.R_far (p := ⟨gb334, 1, none⟩) (Kd.R_far (p := ⟨gb334, 0, none⟩) (Kd.R_types HO_6.out BK334.out (by decide)) (fun _ hk => hk.2) (.int .i64 ((rd_T47 l0 x16_1).f0))) (fun _ hk => hk.2) (.int .i64 ((rd_T47 l0 x16_1).f1))) (fun _ hk => hk.2) (.int .i64 ((rd_T47 l0 x16_1).f2))) (fun _ hk => hk.2) (.int .i64 ((rd_T47 l0 x16_1).f3))) (fun _ h_ => h_.1))) hb); replace BK334 := Aside0.mk (blk_below (g := gb334) (o := .cells #[.int .i64 ((rd_T47 l0 x16_1).f0), .int .i64 ((rd_T47 l0 x16_1).f1), .int .i64 ((rd_T47 l0 x16_1).f2), .int .i64 ((rd_T47 l0 x16_1).f3)] 47 (0, 0)) (by (with_reducible repeat (first | refine blk_drewN ?_ _ | refine blk_drew ?_ | refine blk_alloc ?_ _)); refine blk_put (cs := #[.int .i64 ((rd_T47 l0 x16_1).f0), .int .i64 ((rd_T47 l0 x16_1).f1), .int .i64 ((rd_T47 l0 x16_1).f2), .int .i64 0]) ?_ 3 _ rfl; (with_reducible repeat (first | refine blk_drewN ?_ _ | refine blk_drew ?_ | refine blk_alloc ?_ _)); refine blk_put (cs := #[.int .i64 ((rd_T47 l0 x16_1).f0), .int .i64 ((rd_T47 l0 x16_1).f1), .int .i64 0, .int .i64 0]) ?_ 2 _ rfl; (with_reducible repeat (first | refine blk_drewN ?_ _ | refine blk_drew ?_ | refine blk_alloc ?_ _)); refine blk_put (cs := #[.int .i64 ((rd_T47 l0 x16_1).f0), .int .i64 0, .int .i64 0, .int .i64 0]) ?_ 1 _ rfl; (with_reducible repeat (first | refine blk_drewN ?_ _ | refine blk_drew ?_ | refine blk_alloc ?_ _)); refine blk_put (cs := #[.int .i64 0, .int .i64 0, .int .i64 0, .int .i64 0]) ?_ 0 _ rfl; (with_reducible repeat (first | refine blk_drewN ?_ _ | refine blk_drew ?_ | refine blk_alloc ?_ _)); exact BK334.out) hb); replace HB := bS HB hb; (try clear hb)))
      go_roundg k1
      case measure => have := HK1.out; omega
      case rel => exact ⟨(x6_1), (wrap64 (x16_1 + 1)), zF, H', ⟨by have := HK1.out; omega⟩, ⟨zR HO_6⟩, ⟨zB HB⟩⟩
    ·rw [if_neg c8] at H
     have c8b0 : decide (x16_1 < (l0.length : Int)) = false := decide_eq_false c8
     clear c8
     simp only [Option.some.injEq, Prod.mk.injEq] at H
     obtain ⟨rfl, rfl⟩ := H
     go_wp2
     go_ret2
     exact ⟨_, zE, by (with_reducible repeat (first | apply Kd.R_alloc | apply Kd.R_drewN | apply Kd.R_drew)); exact HO_6.out, zB HB⟩
 ·replace c4 := Bool.eq_false_iff.mpr c4
  subst c4
  have H1 : (some (([] : List Int), false)) = some (r1, r2) := by rw [if_neg (show ¬ (false = true) by decide)] at H; exact H
  clear H
  have H := H1
  clear H1
  simp only [Option.some.injEq, Prod.mk.injEq] at H
  obtain ⟨rfl, rfl⟩ := H
  go_enter Try.func37, Try.ntmps37
  go_wp2_with (first | ((with_reducible refine gate_callee (f := 55) rfl ?_); refine goesL_ (some 11) rfl rfl Try.func55 (by kernel_rfl) rfl #[.slice A0 l0.length c0, .slice A1 l1.length c1] rfl zG ?_; (with_reducible refine (impl_FitsFormat.calls k _ _ l0 _ _ l1 false _ ?side1 ?side2 ?side3 ?side4 A3.out).mono ?_); (case side1 => exact cT HR0); (case side2 => exact HC0.out); (case side3 => exact cT HR1); (case side4 => exact HC1.out); rintro e w34 ⟨rfl, hb⟩; refine ⟨_, rfl, ?_⟩; replace HB := bS HB hb; (try clear hb)))
  go_ret2
  exact ⟨_, zE, by first | exact Kd.R_nil _ _ _ _ _ | exact Kd.N_nil _ _ _ _ _ | exact Kd.V_nil _ _ _ _ _ | exact Kd.Q_nil _ _ _ _ _ | exact Kd.S_nil _ _ _ _ _, zB HB⟩

/-! ### impl_MakeBytes: function 20 -/
def impl_MakeBytes.f (k : Nat) (l0 : List (S47)) (a1 : Int) : Option (List Int) := (impl_MakeMessage.f k l0 a1).bind fun t348 => ((impl_EncodeMessage.f k l0 t348).bind fun bt351 => (some bt351.1))
theorem impl_MakeBytes.mono : ∀ a0 a1 k, LeO (impl_MakeBytes.f k a0 a1) (impl_MakeBytes.f (k + 1) a0 a1) := by
 intro a0 a1 k
 unfold impl_MakeBytes.f
 repeat' first
   | (with_reducible exact impl_EncodeMessage.mono _ _ _)
   | (with_reducible exact impl_MakeMessage.mono _ _ _)
   | (with_reducible exact LeO.refl _)
   | (with_reducible exact LeO.none _)
   | (with_reducible refine LeO.ite ?_ ?_)
   | (with_reducible refine LeO.bind ?_ (fun _ => ?_))
   | exact impl_EncodeMessage.mono _ _ _
   | exact impl_MakeMessage.mono _ _ _
   | exact LeO.none _
   | refine LeO.ite ?_ ?_
   | refine LeO.bind ?_ (fun _ => ?_)
set_option maxHeartbeats 8000000 in
set_option maxRecDepth 100000 in
theorem impl_MakeBytes.calls (k : Nat) (A0 : Option Addr) (c0 : Nat) (l0 : List (S47)) (a1 : Int) (r : List Int) (w : World) (hr0 : Kd.C k47 w A0 l0.length l0) (hc0 : l0.length ≤ c0) (h : impl_MakeBytes.f k l0 a1 = some r) :
  Calls Try.prog 20 #[.slice A0 l0.length c0, .int .i64 a1] w fun e w' => ∃ v0_ : Value, e = .returned (v0_) ∧ Kd.R (Kd.int .i64) 3 w' w.heap.size (fun _ => True) v0_ r ∧ Below w.heap.size w w' := by
 have HR0 := Aside0.mk hr0
 have HC0 := Aside0.mk hc0
 clear hr0 hc0
 have HB := Aside0.mk (Below.refl w.heap.size w)
 have H : ((impl_MakeMessage.f k l0 a1).bind fun t348 => ((impl_EncodeMessage.f k l0 t348).bind fun bt351 => (some bt351.1))) = some r := h
 clear h
 obtain ⟨t348, A3, H⟩ := bindS H
 replace H := Option.bind_eq_some_iff.mp H
 obtain ⟨⟨t351, t352⟩, A40, H⟩ := H
 replace H : (some t351) = some r := H
 have A4 := Aside0.mk A40
 clear A40
 obtain rfl := Option.some.inj H
 go_enter Try.func20, Try.ntmps20
 go_wp2_with (first | ((with_reducible refine gate_callee (f := 23) rfl ?_); refine goesL_ (some 11) rfl rfl Try.func23 (by kernel_rfl) rfl #[.slice A0 l0.length c0, .int .i64 a1] rfl zG ?_; (with_reducible refine (impl_MakeMessage.calls k _ _ l0 a1 t348 _ ?side1 ?side2 A3.out).mono ?_); (case side1 => exact cT HR0); (case side2 => exact HC0.out); rintro e w5 ⟨v349, rfl, ho0, hb⟩; refine ⟨_, rfl, ?_⟩; have HO350 := Aside0.mk (Kd.S_lower ho0 (below_size (zB HB))); replace HB := bS HB hb; (try clear hb); (try clear ho0); obtain ⟨Ao6, co6, eo6⟩ := Kd.S_slice HO350.out; subst eo6) | ((with_reducible refine gate_callee (f := 37) rfl ?_); refine goesL_ (some 12) rfl rfl Try.func37 (by kernel_rfl) rfl #[.slice A0 l0.length c0, .slice Ao6 t348.length co6] rfl zG ?_; (with_reducible refine (impl_EncodeMessage.calls k _ _ l0 _ _ t348 t351 t352 _ ?side1 ?side2 ?side3 ?side4 A4.out).mono ?_); (case side1 => exact cS HR0 HB); (case side2 => exact HC0.out); (case side3 => repeat (first | exact (Kd.S_reads' HO350.out).2.2 | (with_reducible refine Kd.C_alloc ?_ _) | (with_reducible refine Kd.C_drewN ?_ _) | (with_reducible refine Kd.C_drew ?_))); (case side4 => exact (Kd.S_reads' HO350.out).2.1); rintro e w7 ⟨v353, rfl, ho0, hb⟩; refine ⟨_, rfl, ?_⟩; replace HO350 := Aside0.mk (Kd.S_elder' (zS HO350) (Kd.R_base ho0) hb); have HO354 := Aside0.mk (Kd.R_lower ho0 (below_size (zB HB))); replace HB := bS HB hb; (try clear hb); (try clear ho0)))
 go_ret
 exact ⟨_, zE, by (with_reducible repeat (first | apply Kd.R_alloc | apply Kd.R_drewN | apply Kd.R_drew)); exact HO354.out, zB HB⟩

/-! ### slices_Clone_int_int: function 63 (by hand) -/
def slices_Clone_int_int.f (l0 : List Int) : Option (List Int) := if l0.length * 8 ≤ 140737488355328 then some l0 else none
theorem slices_Clone_int_int.calls (A0 : Option Addr) (c0 : Nat) (l0 : List Int) (r : List Int) (w : World) (hr0 : Kd.C (Kd.int .i64) w A0 l0.length l0) (hc0 : l0.length ≤ c0) (h : slices_Clone_int_int.f l0 = some r) :
  Calls Try.prog 63 #[.slice A0 l0.length c0] w fun e w' => ∃ v0_ : Value, e = .returned (v0_) ∧ Kd.R (Kd.int .i64) 3 w' w.heap.size (fun _ => True) v0_ r ∧ Below w.heap.size w w' := by
 unfold slices_Clone_int_int.f at h
 by_cases hl : l0.length * 8 ≤ 140737488355328
 ·rw [if_pos hl] at h
  exact Go.Proofs.Yticpmgofegaaeaa.Hs.clone_calls (fun b off n c zs w hz hb hc => Any.slices_Clone_int Try.laysNm215 b off n c zs w hz hb hc) (fun n c w => Any.slices_Clone_int_nil Try.laysNm215 n c w) (fun a c w => Any.slices_Clone_int_zero Try.laysNm215 a c w) A0 c0 l0 r w hr0 hl (Option.some.inj h)
 ·rw [if_neg hl] at h; cases h

/-! ### impl_readField: function 48 -/
def impl_readField.f (a0_0 : Int) (a0_1 : Int) (a0_2 : Int) (a0_3 : Int) (l1 : List Int) : Option (Int × List Int × Int × Bool) := if (l1.length : Int) = 0 then (some (0, ([] : List Int), 0, false)) else (if a0_0 = 1 then (if 0 < (l1.length : Int) then ((impl_FitsField.f a0_0 a0_1 a0_2 a0_3 (rd l1 0) ([] : List Int)).bind fun t359 => (some (rd l1 0, ([] : List Int), 1, t359))) else (none)) else (if 0 < (l1.length : Int) then ((impl_InRange.f (rd l1 0) 0 (mn a0_1 (wrap64 ((l1.length : Int) - 1)))).bind fun t361 => (if t361 = true then (if 1 ≤ (wrap64 (1 + (rd l1 0))) then (if (wrap64 (1 + (rd l1 0))) ≤ (l1.length : Int) then ((slices_Clone_int_int.f ((l1.take ((wrap64 (1 + (rd l1 0))) : Int).toNat).drop 1)).bind fun t364 => ((impl_FitsField.f a0_0 a0_1 a0_2 a0_3 0 t364).bind fun t369 => (some (0, t364, wrap64 (1 + (rd l1 0)), t369)))) else (none)) else (none)) else (some (0, ([] : List Int), 0, false)))) else (none)))
def impl_readField.T6 : Bool × List (List Nat × List Nat) := (true, [([], []), ([0], [0]), ([1], [1]), ([], []), ([3], [3]), ([], []), ([5], [5]), ([6], [6]), ([4, 7], [4, 7]), ([2, 8], [2, 8]), ([9], [9])])
def impl_readField.B6 : List Nat := [0, 1, 3, 0, 8, 0, 32, 96, 248, 511, 1023]
theorem impl_readField.tab6 : rtab .any (opsOf Try.f48 6) = impl_readField.T6 := by kernel_rfl
theorem impl_readField.bits6 : waitsOk impl_readField.T6.2 impl_readField.B6 = true := by kernel_rfl
def impl_readField.T9 : Bool × List (List Nat × List Nat) := (true, [([], []), ([], []), ([1], [1]), ([2], [2]), ([3], [3]), ([], []), ([], []), ([5, 6], [5, 6]), ([0, 7, 0], [0]), ([4, 8, 0, 1, 2, 3, 4, 8], [4]), ([7, 9, 0, 1, 2, 3, 4, 5, 6, 7, 8, 9], [7])])
def impl_readField.B9 : List Nat := [0, 0, 2, 6, 14, 0, 0, 96, 225, 511, 1023]
theorem impl_readField.tab9 : rtab .any (opsOf Try.f48 9) = impl_readField.T9 := by kernel_rfl
theorem impl_readField.bits9 : waitsOk impl_readField.T9.2 impl_readField.B9 = true := by kernel_rfl
set_option maxHeartbeats 8000000 in
set_option maxRecDepth 100000 in
theorem impl_readField.calls (a0_0 : Int) (a0_1 : Int) (a0_2 : Int) (a0_3 : Int) (A1 : Option Addr) (c1 : Nat) (l1 : List Int) (r1 : Int) (r2 : List Int) (r3 : Int) (r4 : Bool) (w : World) (hr1 : Kd.C (Kd.int .i64) w A1 l1.length l1) (hc1 : l1.length ≤ c1) (h : impl_readField.f a0_0 a0_1 a0_2 a0_3 l1 = some (r1, r2, r3, r4)) :
  Calls Try.prog 48 #[.agg #[.int .i64 a0_0, .int .i64 a0_1, .int .i64 a0_2, .int .i64 a0_3], .slice A1 l1.length c1] w fun e w' => ∃ v1_ : Value, e = .returned (.tuple #[.agg #[.int .i64 r1, v1_], .int .i64 r3, .bool r4]) ∧ Kd.R (Kd.int .i64) 3 w' w.heap.size (fun _ => True) v1_ r2 ∧ Below w.heap.size w w' := by
 have hu47 := Try.underlying47
 have hu58 := Try.underlying58
 have HR1 := Aside0.mk hr1
 have HC1 := Aside0.mk hc1
 clear hr1 hc1
 have HB := Aside0.mk (Below.refl w.heap.size w)
 have H : (if (l1.length : Int) = 0 then (some (0, ([] : List Int), 0, false)) else (if a0_0 = 1 then (if 0 < (l1.length : Int) then ((impl_FitsField.f a0_0 a0_1 a0_2 a0_3 (rd l1 0) ([] : List Int)).bind fun t359 => (some (rd l1 0, ([] : List Int), 1, t359))) else (none)) else (if 0 < (l1.length : Int) then ((impl_InRange.f (rd l1 0) 0 (mn a0_1 (wrap64 ((l1.length : Int) - 1)))).bind fun t361 => (if t361 = true then (if 1 ≤ (wrap64 (1 + (rd l1 0))) then (if (wrap64 (1 + (rd l1 0))) ≤ (l1.length : Int) then ((slices_Clone_int_int.f ((l1.take ((wrap64 (1 + (rd l1 0))) : Int).toNat).drop 1)).bind fun t364 => ((impl_FitsField.f a0_0 a0_1 a0_2 a0_3 0 t364).bind fun t369 => (some (0, t364, wrap64 (1 + (rd l1 0)), t369)))) else (none)) else (none)) else (some (0, ([] : List Int), 0, false)))) else (none)))) = some (r1, r2, r3, r4) := h
 clear h
 by_cases c3 : (l1.length : Int) = 0
 ·rw [if_pos c3] at H
  have c3b0 : ((l1.length : Int) == 0) = true := beq_iff_eq.mpr c3
  have c3b1 : ((l1.length : Int) != 0) = false := bne_eq_false_iff_eq.mpr c3
  clear c3
  simp only [Option.some.injEq, Prod.mk.injEq] at H
  obtain ⟨rfl, rfl, rfl, rfl⟩ := H
  go_enter Try.func48, Try.ntmps48
  go_wp2_with (first | ((with_reducible refine gate_dst (N := 2) rfl ?_); refine box_event ?hg (N := 2) ?hd (cs := #[.int .i64 a0_0, .int .i64 a0_1, .int .i64 a0_2, .int .i64 a0_3]) (t := 47) ?hr ?_; (case hd => rfl); (case hg => rfl); (case hr => first | (go_simp; done) | (go_simp; rfl)); intro gb355 hg w4 hbox hb; have BK355 := Aside0.mk (hbox); have GW355 := gS HB hg; have GE355 := gS HB hg; replace HB := bS HB hb; clear hb hbox hg) | ((with_reducible refine gate_dst (N := 4) rfl ?_); refine box_event ?hg (N := 4) ?hd (cs := #[.int .i64 0, .slice none 0 0]) (t := 58) ?hr ?_; (case hd => rfl); (case hg => rfl); (case hr => first | (go_simp; done) | (go_simp; rfl)); intro gb356 hg w5 hbox hb; have BK356 := Aside0.mk (hbox); have GW356 := gS HB hg; have GE356 := gS HB hg; replace HB := bS HB hb; have NB355_356 := nL BK355 hg; have NB356_355 := nR BK355 hg; replace BK355 := kB BK355 hb; clear hb hbox hg; have hnb6 := NB356_355.out; have hnc6 := NB355_356.out; have hcz7_0 := bc0 BK356; have hcz7_1 := bc1 BK356; have hfz7_0 := bf BK356 0; have hfz7_1 := bf BK356 1))
  refine bodyPost_ret (results_ctt rfl _ _ gb356 58 #[.int .i64 0, .slice none 0 0] (0, 0) _ rfl (by (with_reducible repeat (first | refine blk_drewN ?_ _ | refine blk_drew ?_ | refine blk_alloc ?_ _)); refine blk_put (cs := #[.int .i64 0, .slice none 0 0]) ?_ 1 _ rfl; (with_reducible repeat (first | refine blk_drewN ?_ _ | refine blk_drew ?_ | refine blk_alloc ?_ _)); refine blk_put (cs := #[.int .i64 0, .slice none 0 0]) ?_ 0 _ rfl; (with_reducible repeat (first | refine blk_drewN ?_ _ | refine blk_drew ?_ | refine blk_alloc ?_ _)); exact BK356.out) Try.underlying58 rfl (by kernel_rfl)) rfl ?_
  exact ⟨_, zE, by first | exact Kd.R_nil _ _ _ _ _ | exact Kd.N_nil _ _ _ _ _ | exact Kd.V_nil _ _ _ _ _ | exact Kd.Q_nil _ _ _ _ _ | exact Kd.S_nil _ _ _ _ _, zB HB⟩
 ·rw [if_neg c3] at H
  have c3b0 : ((l1.length : Int) == 0) = false := beq_eq_false_iff_ne.mpr c3
  have c3b1 : ((l1.length : Int) != 0) = true := bne_iff_ne.mpr c3
  have c3b2 : ¬ (l1 = []) := fun h_ => c3 (by rw [h_]; rfl)
  by_cases c8 : a0_0 = 1
  ·rw [if_pos c8] at H
   have c8b0 : (a0_0 == 1) = true := beq_iff_eq.mpr c8
   have c8b1 : (a0_0 != 1) = false := bne_eq_false_iff_eq.mpr c8
   clear c8
   obtain ⟨c9, H⟩ := ifS H
   have c9b0 : decide (0 < (l1.length : Int)) = true := decide_eq_true c9
   have c9b1 : decide (0 < l1.length) = true := decide_eq_true (by omega)
   clear c9
   obtain ⟨t359, A10, H⟩ := bindS H
   simp only [Option.some.injEq, Prod.mk.injEq] at H
   obtain ⟨rfl, rfl, rfl, rfl⟩ := H
   go_enter Try.func48, Try.ntmps48
   try go_wp2_with (first | ((with_reducible refine gate_dst (N := 2) rfl ?_); refine box_event ?hg (N := 2) ?hd (cs := #[.int .i64 a0_0, .int .i64 a0_1, .int .i64 a0_2, .int .i64 a0_3]) (t := 47) ?hr ?_; (case hd => rfl); (case hg => rfl); (case hr => first | (go_simp; done) | (go_simp; rfl)); intro gb355 hg w11 hbox hb; have BK355 := Aside0.mk (hbox); have GW355 := gS HB hg; have GE355 := gS HB hg; replace HB := bS HB hb; clear hb hbox hg) | ((with_reducible refine gate_dst (N := 4) rfl ?_); refine box_event ?hg (N := 4) ?hd (cs := #[.int .i64 0, .slice none 0 0]) (t := 58) ?hr ?_; (case hd => rfl); (case hg => rfl); (case hr => first | (go_simp; done) | (go_simp; rfl)); intro gb356 hg w12 hbox hb; have BK356 := Aside0.mk (hbox); have GW356 := gS HB hg; have GE356 := gS HB hg; replace HB := bS HB hb; have NB355_356 := nL BK355 hg; have NB356_355 := nR BK355 hg; replace BK355 := kB BK355 hb; clear hb hbox hg; have hnb13 := NB355_356.out; have hnc13 := NB356_355.out; have hcz14_0 := bc0 BK355; have hcz14_1 := bc1 BK355; have hcz14_2 := bc2 BK355; have hcz14_3 := bc3 BK355; have hfz14_0 := bf BK355 0; have hfz14_1 := bf BK355 1; have hfz14_2 := bf BK355 2; have hfz14_3 := bf BK355 3; have p357 : 0 ≤ (0 : Int) := (by omega); have q357 : 0 < (l1.length : Int) := zD; obtain ⟨ad357, e357, hx357_0⟩ := Kd.at_int HR1.out 0 p357 q357; cases e357; have qi357 : (0 < l1.length) = True := eq_true (by omega); (try rw [show ((0 : Int)).toNat = 0 from rfl] at hx357_0); (try rw [Addr.add_zero'] at hx357_0); replace hx357_0 := hL HB hx357_0; replace p357 := eq_true p357; replace q357 := eq_true q357) | ((with_reducible refine gate_dst (N := 7) rfl ?_); refine box_event ?hg (N := 7) ?hd (cs := #[.int .i64 0, .slice none 0 0]) (t := 58) ?hr ?_; (case hd => rfl); (case hg => rfl); (case hr => first | (go_simp; done) | (go_simp; rfl)); intro gb358 hg w15 hbox hb; have BK358 := Aside0.mk (hbox); have GW358 := gS HB hg; have GE358 := gS HB hg; replace HB := bS HB hb; have NB355_358 := nL BK355 hg; have NB358_355 := nR BK355 hg; replace BK355 := kB BK355 hb; have NB356_358 := nL BK356 hg; have NB358_356 := nR BK356 hg; replace BK356 := kB BK356 hb; clear hb hbox hg; have hnb16 := NB358_355.out; have hnc16 := NB355_358.out; have hnb17 := NB358_356.out; have hnc17 := NB356_358.out; have hcz18_0 := bc0 BK358; have hcz18_1 := bc1 BK358; have hfz18_0 := bf BK358 0; have hfz18_1 := bf BK358 1))
   have n0_ : Aside0 (((w15.setCell ⟨gb358, 0, none⟩ (.int .i64 (rd l1 0))).setCell ⟨gb358, 1, none⟩ (.slice none 0 0)).heap[gb355]? = some (.cells #[.int .i64 a0_0, .int .i64 a0_1, .int .i64 a0_2, .int .i64 a0_3] 47 (0, 0))) := ⟨by (with_reducible repeat (first | refine blk_drewN ?_ _ | refine blk_drew ?_ | refine blk_alloc ?_ _)); refine blk_far ?_ NB355_358.out _; (with_reducible repeat (first | refine blk_drewN ?_ _ | refine blk_drew ?_ | refine blk_alloc ?_ _)); refine blk_far ?_ NB355_358.out _; (with_reducible repeat (first | refine blk_drewN ?_ _ | refine blk_drew ?_ | refine blk_alloc ?_ _)); exact BK355.out⟩
   have n1_ : Aside0 (((w15.setCell ⟨gb358, 0, none⟩ (.int .i64 (rd l1 0))).setCell ⟨gb358, 1, none⟩ (.slice none 0 0)).heap[gb356]? = some (.cells #[.int .i64 0, .slice none 0 0] 58 (0, 0))) := ⟨by (with_reducible repeat (first | refine blk_drewN ?_ _ | refine blk_drew ?_ | refine blk_alloc ?_ _)); refine blk_far ?_ NB356_358.out _; (with_reducible repeat (first | refine blk_drewN ?_ _ | refine blk_drew ?_ | refine blk_alloc ?_ _)); refine blk_far ?_ NB356_358.out _; (with_reducible repeat (first | refine blk_drewN ?_ _ | refine blk_drew ?_ | refine blk_alloc ?_ _)); exact BK356.out⟩
   have n2_ : Aside0 (((w15.setCell ⟨gb358, 0, none⟩ (.int .i64 (rd l1 0))).setCell ⟨gb358, 1, none⟩ (.slice none 0 0)).heap[gb358]? = some (.cells #[.int .i64 (rd l1 0), .slice none 0 0] 58 (0, 0))) := ⟨by (with_reducible repeat (first | refine blk_drewN ?_ _ | refine blk_drew ?_ | refine blk_alloc ?_ _)); refine blk_put (cs := #[.int .i64 (rd l1 0), .slice none 0 0]) ?_ 1 _ rfl; (with_reducible repeat (first | refine blk_drewN ?_ _ | refine blk_drew ?_ | refine blk_alloc ?_ _)); refine blk_put (cs := #[.int .i64 0, .slice none 0 0]) ?_ 0 _ rfl; (with_reducible repeat (first | refine blk_drewN ?_ _ | refine blk_drew ?_ | refine blk_alloc ?_ _)); exact BK358.out⟩
   have n3_ : Aside0 (Below w.heap.size w ((w15.setCell ⟨gb358, 0, none⟩ (.int .i64 (rd l1 0))).setCell ⟨gb358, 1, none⟩ (.slice none 0 0))) := ⟨zB HB⟩
   (try clear BK355)
   (try clear BK356)
   (try clear BK358)
   (try clear HB)
   generalize ((w15.setCell ⟨gb358, 0, none⟩ (.int .i64 (rd l1 0))).setCell ⟨gb358, 1, none⟩ (.slice none 0 0)) = w19 at n0_ n1_ n2_ n3_ ⊢
   have BK355 := n0_
   have BK356 := n1_
   have BK358 := n2_
   have HB := n3_
   clear n0_ n1_ n2_ n3_
   replace BK355 := Aside0.mk (blk_drew BK355.out)
   replace BK356 := Aside0.mk (blk_drew BK356.out)
   replace BK358 := Aside0.mk (blk_drew BK358.out)
   replace HB := Aside0.mk (below_drew1 HB.out)
   refine start_ (n := 7) (S := fun w' => w'.cell? ⟨gb358, 0, none⟩ = some (.int .i64 (rd l1 0)) ∧ w'.cell? ⟨gb358, 1, none⟩ = some (.slice none 0 0) ∧ w'.cell? ⟨gb355, 0, none⟩ = some (.int .i64 a0_0) ∧ w'.cell? ⟨gb355, 1, none⟩ = some (.int .i64 a0_1) ∧ w'.cell? ⟨gb355, 2, none⟩ = some (.int .i64 a0_2) ∧ w'.cell? ⟨gb355, 3, none⟩ = some (.int .i64 a0_3)) (ds := []) (bm 7 0) (by kernel_rfl) rfl (bm0 _) ⟨bc0 BK358, bc1 BK358, bc0 BK355, bc1 BK355, bc2 BK355, bc3 BK355⟩ (fun hHeld => ?_)
   generalize w19.drew = w20 at BK355 BK356 BK358 HB hHeld ⊢
   refine take_ (i := 0) (N := some 20) (v := ?_) (a' := ?_) (bm 7 1) rfl rfl (by kernel_rfl) (fun _ _ _ h => h) (Or.inl ⟨by rfl, ?_⟩) hHeld ?_ ?_
   rotate_left
   ·rintro w' ⟨s0, s1, s2, s3, s4, s5⟩
    go_simp
    with_reducible rfl
   rotate_left
   ·simp only [Act.put, List.setIfInBounds_toArray, List.set_cons_zero, List.set_cons_succ, i64_w, i32_w]
    rfl
   refine take_ (i := 1) (N := some 21) (v := ?_) (a' := ?_) (bm 7 3) rfl rfl (by kernel_rfl) (fun _ _ _ h => h) (Or.inl ⟨by rfl, ?_⟩) hHeld ?_ ?_
   rotate_left
   ·rintro w' ⟨s0, s1, s2, s3, s4, s5⟩
    go_simp
    with_reducible rfl
   rotate_left
   ·simp only [Act.put, List.setIfInBounds_toArray, List.set_cons_zero, List.set_cons_succ, i64_w, i32_w]
    rfl
   refine take_ (i := 2) (N := some 22) (v := ?_) (a' := ?_) (bm 7 7) rfl rfl (by kernel_rfl) (fun _ _ _ h => h) (Or.inl ⟨by rfl, ?_⟩) hHeld ?_ ?_
   rotate_left
   ·rintro w' ⟨s0, s1, s2, s3, s4, s5⟩
    go_simp
    with_reducible rfl
   rotate_left
   ·simp only [Act.put, List.setIfInBounds_toArray, List.set_cons_zero, List.set_cons_succ, i64_w, i32_w]
    rfl
   refine one_ (i := 3) (N := some 23) (bm 7 15) rfl rfl (by kernel_rfl) (by decide) (fun K hK => ?_)
   refine goes_ Try.func62 (by kernel_rfl) rfl #[.agg #[.int .i64 a0_0, .int .i64 a0_1, .int .i64 a0_2, .int .i64 a0_3], .agg #[.int .i64 (rd l1 0), .slice none 0 0]] (by rfl) rfl rfl zG ?_
   refine (impl_FitsField.calls a0_0 a0_1 a0_2 a0_3 (rd l1 0) _ _ ([] : List Int) t359 _ ?side1 ?side2 A10.out).mono ?_
   (case side1 => exact Kd.C_nil _ _)
   (case side2 => exact Nat.le_refl _)
   rintro e w21 ⟨rfl, hb⟩
   refine ⟨_, rfl, ?_⟩
   replace BK355 := kB BK355 hb
   replace BK356 := kB BK356 hb
   replace BK358 := kB BK358 hb
   replace HB := bS HB hb
   (try clear hb)
   (try clear hb2)
   (try clear hk)
   (try clear hi)
   refine hK.out _ _ ⟨bc0 BK358, bc1 BK358, bc0 BK355, bc1 BK355, bc2 BK355, bc3 BK355⟩ (fun hHeld => ?_)
   clear hK K
   refine norm_ (a' := ?_) ?_ ?_
   rotate_left
   ·show Act.put _ (some 23) _ = _
    simp only [Act.put, List.setIfInBounds_toArray, List.set_cons_zero, List.set_cons_succ, i64_w, i32_w]
    rfl
   refine one_ (i := 4) (N := none) (bm 7 31) rfl rfl (by kernel_rfl) (by decide) (fun K hK => ?_)
   have hs22 : w21.cell? ⟨gb356, 0, none⟩ = some (.int .i64 0) := bc0 BK356
   have hfs22 := bf BK356 0
   have hns22_0 := NB355_356.out
   have hns22_2 := NB358_356.out
   have hms22_0 := NB356_355.out
   have hms22_2 := NB356_358.out
   have hs23 : w21.cell? ⟨gb356, 1, none⟩ = some (.slice none 0 0) := bc1 BK356
   have hfs23 := bf BK356 1
   have hns23_0 := NB355_356.out
   have hns23_2 := NB358_356.out
   have hms23_0 := NB356_355.out
   have hms23_2 := NB356_358.out
   refine skip_ (w1 := ?_) (by rfl) rfl ?_ ?_
   rotate_left
   ·go_simp
    rfl
   refine hK.out _ _ ⟨((cell_far (p := ⟨gb356, _, none⟩) NB358_356.out _).trans (((cell_far (p := ⟨gb356, _, none⟩) NB358_356.out _).trans (hHeld.1)))), ((cell_far (p := ⟨gb356, _, none⟩) NB358_356.out _).trans (((cell_far (p := ⟨gb356, _, none⟩) NB358_356.out _).trans (hHeld.2.1)))), ((cell_far (p := ⟨gb356, _, none⟩) NB355_356.out _).trans (((cell_far (p := ⟨gb356, _, none⟩) NB355_356.out _).trans (hHeld.2.2.1)))), ((cell_far (p := ⟨gb356, _, none⟩) NB355_356.out _).trans (((cell_far (p := ⟨gb356, _, none⟩) NB355_356.out _).trans (hHeld.2.2.2.1)))), ((cell_far (p := ⟨gb356, _, none⟩) NB355_356.out _).trans (((cell_far (p := ⟨gb356, _, none⟩) NB355_356.out _).trans (hHeld.2.2.2.2.1)))), ((cell_far (p := ⟨gb356, _, none⟩) NB355_356.out _).trans (((cell_far (p := ⟨gb356, _, none⟩) NB355_356.out _).trans (hHeld.2.2.2.2.2))))⟩ (fun hHeld => ?_)
   clear hK K
   refine pure_ (i := 5) (N := some 5) (v := ?_) (a' := ?_) (bm 7 63) rfl rfl (by kernel_rfl) (fun _ _ _ h => h) (Or.inl ⟨by rfl, ?_⟩) ?_ ?_
   rotate_left
   ·intro w'
    go_simp
    with_reducible rfl
   rotate_left
   ·simp only [Act.put, List.setIfInBounds_toArray, List.set_cons_zero, List.set_cons_succ, i64_w, i32_w]
    rfl
   refine pure_ (i := 6) (N := some 6) (v := ?_) (a' := ?_) (bm 7 127) rfl rfl (by kernel_rfl) (fun _ _ _ h => h) (Or.inl ⟨by rfl, ?_⟩) ?_ ?_
   rotate_left
   ·intro w'
    go_simp
    with_reducible rfl
   rotate_left
   ·simp only [Act.put, List.setIfInBounds_toArray, List.set_cons_zero, List.set_cons_succ, i64_w, i32_w]
    rfl
   refine done_ (by kernel_rfl) ?_
   try clear hHeld
   try go_wp2
   refine bodyPost_ret (results_ctt rfl _ _ gb356 58 #[.int .i64 (rd l1 0), .slice none 0 0] (0, 0) _ rfl (by (with_reducible repeat (first | refine blk_drewN ?_ _ | refine blk_drew ?_ | refine blk_alloc ?_ _)); refine blk_put (cs := #[.int .i64 (rd l1 0), .slice none 0 0]) ?_ 1 _ rfl; (with_reducible repeat (first | refine blk_drewN ?_ _ | refine blk_drew ?_ | refine blk_alloc ?_ _)); refine blk_put (cs := #[.int .i64 0, .slice none 0 0]) ?_ 0 _ rfl; (with_reducible repeat (first | refine blk_drewN ?_ _ | refine blk_drew ?_ | refine blk_alloc ?_ _)); exact BK356.out) Try.underlying58 rfl (by kernel_rfl)) rfl ?_
   exact ⟨_, zE, by first | exact Kd.R_nil _ _ _ _ _ | exact Kd.N_nil _ _ _ _ _ | exact Kd.V_nil _ _ _ _ _ | exact Kd.Q_nil _ _ _ _ _ | exact Kd.S_nil _ _ _ _ _, zB HB⟩
  ·rw [if_neg c8] at H
   have c8b0 : (a0_0 == 1) = false := beq_eq_false_iff_ne.mpr c8
   have c8b1 : (a0_0 != 1) = true := bne_iff_ne.mpr c8
   by_cases c24 : 0 < (l1.length : Int)
   ·rw [if_pos c24] at H
    have c24b0 : decide (0 < (l1.length : Int)) = true := decide_eq_true c24
    have c24b1 : decide (0 < l1.length) = true := decide_eq_true (by omega)
    clear c24
    obtain ⟨ji25, hji25⟩ : ∃ j_ : Int, (mn a0_1 (wrap64 ((l1.length : Int) - 1))) = j_ := ⟨_, rfl⟩
    replace H : ((impl_InRange.f (rd l1 0) 0 (ji25)).bind fun t361 => (if t361 = true then (if 1 ≤ (wrap64 (1 + (rd l1 0))) then (if (wrap64 (1 + (rd l1 0))) ≤ (l1.length : Int) then ((slices_Clone_int_int.f ((l1.take ((wrap64 (1 + (rd l1 0))) : Int).toNat).drop 1)).bind fun t364 => ((impl_FitsField.f a0_0 a0_1 a0_2 a0_3 0 t364).bind fun t369 => (some (0, t364, wrap64 (1 + (rd l1 0)), t369)))) else (none)) else (none)) else (some (0, ([] : List Int), 0, false)))) = some (r1, r2, r3, r4) := by first | (rw [hji25] at H; exact H) | (simp only [hji25] at H ⊢; exact H)
    have hji25_ : (if (wrap64 ((l1.length : Int) - 1)) < a0_1 then (wrap64 ((l1.length : Int) - 1)) else a0_1) = ji25 := hji25
    obtain ⟨t361, A26, H⟩ := bindS H
    by_cases c27 : t361 = true
    ·subst c27
     have H1 : (if 1 ≤ (wrap64 (1 + (rd l1 0))) then (if (wrap64 (1 + (rd l1 0))) ≤ (l1.length : Int) then ((slices_Clone_int_int.f ((l1.take ((wrap64 (1 + (rd l1 0))) : Int).toNat).drop 1)).bind fun t364 => ((impl_FitsField.f a0_0 a0_1 a0_2 a0_3 0 t364).bind fun t369 => (some (0, t364, wrap64 (1 + (rd l1 0)), t369)))) else (none)) else (none)) = some (r1, r2, r3, r4) := by rw [if_pos rfl] at H; exact H
     clear H
     have H := H1
     clear H1
     obtain ⟨c28, H⟩ := ifS H
     have c28b0 := eq_true c28
     have c28b1 : decide (1 ≤ (wrap64 (1 + (rd l1 0)))) = true := decide_eq_true c28
     obtain ⟨c29, H⟩ := ifS H
     have c29b0 := eq_true c29
     have c29b1 : decide ((wrap64 (1 + (rd l1 0))) ≤ (l1.length : Int)) = true := decide_eq_true c29
     obtain ⟨t364, A30, H⟩ := bindS H
     obtain ⟨t369, A31, H⟩ := bindS H
     simp only [Option.some.injEq, Prod.mk.injEq] at H
     obtain ⟨rfl, rfl, rfl, rfl⟩ := H
     go_enter Try.func48, Try.ntmps48
     try go_wp2_with (first | ((with_reducible refine gate_dst (N := 2) rfl ?_); refine box_event ?hg (N := 2) ?hd (cs := #[.int .i64 a0_0, .int .i64 a0_1, .int .i64 a0_2, .int .i64 a0_3]) (t := 47) ?hr ?_; (case hd => rfl); (case hg => rfl); (case hr => first | (go_simp; done) | (go_simp; rfl)); intro gb355 hg w32 hbox hb; have BK355 := Aside0.mk (hbox); have GW355 := gS HB hg; have GE355 := gS HB hg; replace HB := bS HB hb; clear hb hbox hg) | ((with_reducible refine gate_dst (N := 4) rfl ?_); refine box_event ?hg (N := 4) ?hd (cs := #[.int .i64 0, .slice none 0 0]) (t := 58) ?hr ?_; (case hd => rfl); (case hg => rfl); (case hr => first | (go_simp; done) | (go_simp; rfl)); intro gb356 hg w33 hbox hb; have BK356 := Aside0.mk (hbox); have GW356 := gS HB hg; have GE356 := gS HB hg; replace HB := bS HB hb; have NB355_356 := nL BK355 hg; have NB356_355 := nR BK355 hg; replace BK355 := kB BK355 hb; clear hb hbox hg; have hnb34 := NB355_356.out; have hnc34 := NB356_355.out; have hcz35_0 := bc0 BK355; have hcz35_1 := bc1 BK355; have hcz35_2 := bc2 BK355; have hcz35_3 := bc3 BK355; have hfz35_0 := bf BK355 0; have hfz35_1 := bf BK355 1; have hfz35_2 := bf BK355 2; have hfz35_3 := bf BK355 3))
     replace BK355 := Aside0.mk (blk_drew BK355.out)
     replace BK356 := Aside0.mk (blk_drew BK356.out)
     replace HB := Aside0.mk (below_drew1 HB.out)
     have p360 : 0 ≤ (0 : Int) := (by omega)
     have q360 : 0 < (l1.length : Int) := zD
     obtain ⟨ad360, e360, hx360_0⟩ := Kd.at_int HR1.out 0 p360 q360
     have hw360_0 := hx360_0
     (try rw [show ((0 : Int)).toNat = 0 from rfl] at hw360_0)
     (try rw [show 0 * 1 = 0 from rfl] at hw360_0)
     (try rw [Addr.add_zero'] at hw360_0)
     cases e360
     have qi360 : (0 < l1.length) = True := eq_true (by omega)
     (try rw [show ((0 : Int)).toNat = 0 from rfl] at hx360_0)
     (try rw [Addr.add_zero'] at hx360_0)
     replace hx360_0 := hL HB hx360_0
     replace p360 := eq_true p360
     replace q360 := eq_true q360
     refine start_ (n := 11) (S := fun w' => w'.cell? ⟨gb355, 0, none⟩ = some (.int .i64 a0_0) ∧ w'.cell? ⟨gb355, 1, none⟩ = some (.int .i64 a0_1) ∧ w'.cell? ⟨gb355, 2, none⟩ = some (.int .i64 a0_2) ∧ w'.cell? ⟨gb355, 3, none⟩ = some (.int .i64 a0_3) ∧ w'.cell? ad360 = some (.int .i64 (rd l1 0))) (ds := []) (bm 11 0) (by kernel_rfl) rfl (bm0 _) ⟨bc0 BK355, bc1 BK355, bc2 BK355, bc3 BK355, (hL HB hw360_0)⟩ (fun hHeld => ?_); refine with_tabW impl_readField.tab6 impl_readField.bits6 (fun HT_ HW_ => ?_)
     generalize w33.drew = w36 at BK355 BK356 HB hx360_0 hHeld ⊢
     refine pU 0 (some 24) (bm 11 1) HT_ rfl rfl ?_
     refine pU 1 (some 25) (bm 11 3) HT_ rfl rfl ?_
     refine pU 3 (some 27) (bm 11 11) HT_ rfl rfl ?_
     refine pU 5 (some 29) (bm 11 43) HT_ rfl rfl ?_
     refine pU 6 (some 30) (bm 11 107) HT_ rfl rfl ?_
     refine pU 7 (some 31) (bm 11 235) HT_ rfl rfl ?_
     refine tU 2 (some 26) (bm 11 239) HT_ HW_ rfl rfl hHeld ?_
     refine tU 4 (some 28) (bm 11 255) HT_ HW_ rfl rfl hHeld ?_
     refine pU 8 (some 32) (bm 11 511) HT_ rfl rfl ?_
     refine one_ (i := 9) (N := some 33) (bm 11 1023) rfl rfl (one_of HT_.out (by kernel_rfl)) (by decide) (fun K hK => ?_)
     refine goes_ Try.func33 (by kernel_rfl) rfl #[.int .i64 (rd l1 0), .int .i64 0, .int .i64 ji25] (by rfl) rfl rfl (by (try simp only [List.map_toArray, List.map_cons, List.map_nil]); first | done | (simp only [hji25]; rfl) | rfl | (simp only [List.length_drop, List.length_take]; rfl)) ?_
     with_reducible refine (impl_InRange.calls (rd l1 0) 0 ji25 true _ A26.out).mono ?_
     rintro e w' ⟨rfl, ⟨nd, rfl⟩⟩
     refine ⟨_, rfl, ?_⟩
     refine hK.out _ _ ⟨bc0 BK355, bc1 BK355, bc2 BK355, bc3 BK355, (hL HB hw360_0)⟩ (fun hHeld => ?_)
     clear hK K
     refine norm_ (a' := ?_) ?_ ?_
     rotate_left
     ·show Act.put _ (some 33) _ = _
      simp only [Act.put, List.setIfInBounds_toArray, List.set_cons_zero, List.set_cons_succ, i64_w, i32_w]
      rfl
     refine pU 10 (some 34) (bm 11 2047) HT_ rfl rfl ?_
     refine done_ (done_of HT_.out (by kernel_rfl)) ?_
     try clear hHeld
     have p362 : 0 ≤ (0 : Int) := (by omega)
     have q362 : 0 < (l1.length : Int) := zD
     obtain ⟨ad362, e362, hx362_0⟩ := Kd.at_int HR1.out 0 p362 q362
     obtain rfl : ad360 = ad362 := (by injection e362)
     have qi362 : (0 < l1.length) = True := eq_true (by omega)
     (try rw [show ((0 : Int)).toNat = 0 from rfl] at hx362_0)
     (try rw [Addr.add_zero'] at hx362_0)
     replace hx362_0 := hL HB hx362_0
     replace p362 := eq_true p362
     replace q362 := eq_true q362
     obtain ⟨i037, hi037, _, hsz37, _⟩ := info_parts info3
     obtain ⟨A37, hcut37, hA37, hC37⟩ := print_mid_of (P := Try.prog) (Value.int .i64) 0 37 3 .i64 .i64 Try.underlying37 hi037 hsz37 (some ad360) c1 l1 1 (wrap64 (1 + (rd l1 0))) (by omega) (by first | omega | exact zD) (zD) HC1.out
     have HR363 := Aside0.mk (Kd.C_of_reads (h1 := fun _ => rfl) (hA37 _ (Kd.reads_of_C HR1.out)))
     have HC363 := Aside0.mk hC37
     clear hA37 hC37 hi037 hsz37
     try go_wp2_with (first | ((with_reducible refine gate_callee (f := 63) rfl ?_); refine goesL_ (some 42) rfl rfl Try.func63 (by kernel_rfl) rfl #[.slice A37 ((l1.take ((wrap64 (1 + (rd l1 0))) : Int).toNat).drop 1).length (c1 - 1)] rfl (by (try simp only [List.map_toArray, List.map_cons, List.map_nil]); first | done | (rw [show ((l1.take ((wrap64 (1 + (rd l1 0))) : Int).toNat).drop 1).length = ((wrap64 (1 + (rd l1 0))).toNat - 1) from (by rw [List.length_drop, List.length_take]; have h_ : ((wrap64 (1 + (rd l1 0))) : Int) ≤ (l1.length : Int) := zD; omega)] <;> rfl) | rfl | (simp only [List.length_drop, List.length_take]; rfl)) ?_; (with_reducible refine (slices_Clone_int_int.calls _ _ ((l1.take ((wrap64 (1 + (rd l1 0))) : Int).toNat).drop 1) t364 _ ?side1 ?side2 A30.out).mono ?_); (case side1 => repeat (first | exact (Kd.C_below HR363.out (zB HB)) | (with_reducible refine Kd.C_alloc ?_ _) | (with_reducible refine Kd.C_drewN ?_ _) | (with_reducible refine Kd.C_drew ?_))); (case side2 => exact HC363.out); rintro e w38 ⟨v365, rfl, ho0, hb⟩; refine ⟨_, rfl, ?_⟩; have HO366 := Aside0.mk (Kd.R_lower ho0 (below_size (zB HB))); replace BK355 := kB BK355 hb; replace BK356 := kB BK356 hb; replace HB := bS HB hb; (try clear hb); (try clear ho0); obtain ⟨Ao39, co39, eo39⟩ := Kd.R_slice HO366.out; subst eo39) | ((with_reducible refine gate_dst (N := 8) rfl ?_); refine box_event ?hg (N := 8) ?hd (cs := #[.int .i64 0, .slice none 0 0]) (t := 58) ?hr ?_; (case hd => rfl); (case hg => rfl); (case hr => first | (go_simp; done) | (go_simp; rfl)); intro gb367 hg w40 hbox hb; replace HO366 := Aside0.mk (Kd.R_below (zR HO366) hb); have BK367 := Aside0.mk (hbox); have GW367 := gS HB hg; have GE367 := gS HB hg; replace HB := bS HB hb; have NB355_367 := nL BK355 hg; have NB367_355 := nR BK355 hg; replace BK355 := kB BK355 hb; have NB356_367 := nL BK356 hg; have NB367_356 := nR BK356 hg; replace BK356 := kB BK356 hb; clear hb hbox hg; have hnb41 := NB367_355.out; have hnc41 := NB355_367.out; have hnb42 := NB367_356.out; have hnc42 := NB356_367.out; have hcz43_0 := bc0 BK367; have hcz43_1 := bc1 BK367; have hfz43_0 := bf BK367 0; have hfz43_1 := bf BK367 1))
     have n0_ : Aside0 (Kd.R (Kd.int .i64) 3 ((w40.setCell ⟨gb367, 0, none⟩ (.int .i64 0)).setCell ⟨gb367, 1, none⟩ (.slice Ao39 t364.length co39)) w.heap.size (fun _ => True) (.slice Ao39 t364.length co39) t364) := ⟨by (with_reducible repeat (first | apply Kd.R_alloc | apply Kd.R_drewN | apply Kd.R_drew)); exact Kd.R_mono (Kd.R_far (p := ⟨gb367, 1, none⟩) (Kd.R_far (p := ⟨gb367, 0, none⟩) (Kd.R_types HO366.out BK367.out (by decide)) (fun _ hk => hk.2) (.int .i64 0)) (fun _ hk => hk.2) (.slice Ao39 t364.length co39)) (fun _ hk => trivial)⟩
     have n1_ : Aside0 (((w40.setCell ⟨gb367, 0, none⟩ (.int .i64 0)).setCell ⟨gb367, 1, none⟩ (.slice Ao39 t364.length co39)).heap[gb355]? = some (.cells #[.int .i64 a0_0, .int .i64 a0_1, .int .i64 a0_2, .int .i64 a0_3] 47 (0, 0))) := ⟨by (with_reducible repeat (first | refine blk_drewN ?_ _ | refine blk_drew ?_ | refine blk_alloc ?_ _)); refine blk_far ?_ NB355_367.out _; (with_reducible repeat (first | refine blk_drewN ?_ _ | refine blk_drew ?_ | refine blk_alloc ?_ _)); refine blk_far ?_ NB355_367.out _; (with_reducible repeat (first | refine blk_drewN ?_ _ | refine blk_drew ?_ | refine blk_alloc ?_ _)); exact BK355.out⟩
     have n2_ : Aside0 (((w40.setCell ⟨gb367, 0, none⟩ (.int .i64 0)).setCell ⟨gb367, 1, none⟩ (.slice Ao39 t364.length co39)).heap[gb356]? = some (.cells #[.int .i64 0, .slice none 0 0] 58 (0, 0))) := ⟨by (with_reducible repeat (first | refine blk_drewN ?_ _ | refine blk_drew ?_ | refine blk_alloc ?_ _)); refine blk_far ?_ NB356_367.out _; (with_reducible repeat (first | refine blk_drewN ?_ _ | refine blk_drew ?_ | refine blk_alloc ?_ _)); refine blk_far ?_ NB356_367.out _; (with_reducible repeat (first | refine blk_drewN ?_ _ | refine blk_drew ?_ | refine blk_alloc ?_ _)); exact BK356.out⟩
     have n3_ : Aside0 (((w40.setCell ⟨gb367, 0, none⟩ (.int .i64 0)).setCell ⟨gb367, 1, none⟩ (.slice Ao39 t364.length co39)).heap[gb367]? = some (.cells #[.int .i64 0, .slice Ao39 t364.length co39] 58 (0, 0))) := ⟨by (with_reducible repeat (first | refine blk_drewN ?_ _ | refine blk_drew ?_ | refine blk_alloc ?_ _)); refine blk_put (cs := #[.int .i64 0, .slice none 0 0]) ?_ 1 _ rfl; (with_reducible repeat (first | refine blk_drewN ?_ _ | refine blk_drew ?_ | refine blk_alloc ?_ _)); refine blk_put (cs := #[.int .i64 0, .slice none 0 0]) ?_ 0 _ rfl; (with_reducible repeat (first | refine blk_drewN ?_ _ | refine blk_drew ?_ | refine blk_alloc ?_ _)); exact BK367.out⟩
     have n4_ : Aside0 (Below w.heap.size w ((w40.setCell ⟨gb367, 0, none⟩ (.int .i64 0)).setCell ⟨gb367, 1, none⟩ (.slice Ao39 t364.length co39))) := ⟨zB HB⟩
     (try clear HO366)
     (try clear BK355)
     (try clear BK356)
     (try clear BK367)
     (try clear HB)
     generalize ((w40.setCell ⟨gb367, 0, none⟩ (.int .i64 0)).setCell ⟨gb367, 1, none⟩ (.slice Ao39 t364.length co39)) = w44 at n0_ n1_ n2_ n3_ n4_ ⊢
     have HO366 := n0_
     have BK355 := n1_
     have BK356 := n2_
     have BK367 := n3_
     have HB := n4_
     clear n0_ n1_ n2_ n3_ n4_
     replace HO366 := Aside0.mk (Kd.R_drew HO366.out)
     replace BK355 := Aside0.mk (blk_drew BK355.out)
     replace BK356 := Aside0.mk (blk_drew BK356.out)
     replace BK367 := Aside0.mk (blk_drew BK367.out)
     replace HB := Aside0.mk (below_drew1 HB.out)
     have p368 : 0 ≤ (0 : Int) := (by omega)
     have q368 : 0 < (l1.length : Int) := zD
     obtain ⟨ad368, e368, hx368_0⟩ := Kd.at_int HR1.out 0 p368 q368
     have hw368_0 := hx368_0
     (try rw [show ((0 : Int)).toNat = 0 from rfl] at hw368_0)
     (try rw [show 0 * 1 = 0 from rfl] at hw368_0)
     (try rw [Addr.add_zero'] at hw368_0)
     obtain rfl : ad360 = ad368 := (by injection e368)
     have qi368 : (0 < l1.length) = True := eq_true (by omega)
     (try rw [show ((0 : Int)).toNat = 0 from rfl] at hx368_0)
     (try rw [Addr.add_zero'] at hx368_0)
     replace hx368_0 := hL HB hx368_0
     replace p368 := eq_true p368
     replace q368 := eq_true q368
     refine start_ (n := 11) (S := fun w' => w'.cell? ⟨gb367, 0, none⟩ = some (.int .i64 0) ∧ w'.cell? ⟨gb367, 1, none⟩ = some (.slice Ao39 t364.length co39) ∧ w'.cell? ⟨gb355, 0, none⟩ = some (.int .i64 a0_0) ∧ w'.cell? ⟨gb355, 1, none⟩ = some (.int .i64 a0_1) ∧ w'.cell? ⟨gb355, 2, none⟩ = some (.int .i64 a0_2) ∧ w'.cell? ⟨gb355, 3, none⟩ = some (.int .i64 a0_3) ∧ w'.cell? ad360 = some (.int .i64 (rd l1 0))) (ds := []) (bm 11 0) (by kernel_rfl) rfl (bm0 _) ⟨bc0 BK367, bc1 BK367, bc0 BK355, bc1 BK355, bc2 BK355, bc3 BK355, (hL HB hw368_0)⟩ (fun hHeld => ?_); refine with_tabW impl_readField.tab9 impl_readField.bits9 (fun HT_ HW_ => ?_)
     generalize w44.drew = w45 at HO366 BK355 BK356 BK367 HB hx368_0 hHeld ⊢
     refine pU 1 (some 45) (bm 11 2) HT_ rfl rfl ?_
     refine pU 2 (some 46) (bm 11 6) HT_ rfl rfl ?_
     refine tU 0 (some 44) (bm 11 7) HT_ HW_ rfl rfl hHeld ?_
     refine tU 3 (some 47) (bm 11 15) HT_ HW_ rfl rfl hHeld ?_
     refine pU 4 (some 48) (bm 11 31) HT_ rfl rfl ?_
     refine tU 5 (some 49) (bm 11 63) HT_ HW_ rfl rfl hHeld ?_
     refine tU 6 (some 50) (bm 11 127) HT_ HW_ rfl rfl hHeld ?_
     refine one_ (i := 7) (N := some 51) (bm 11 255) rfl rfl (one_of HT_.out (by kernel_rfl)) (by decide) (fun K hK => ?_)
     refine goes_ Try.func62 (by kernel_rfl) rfl #[.agg #[.int .i64 a0_0, .int .i64 a0_1, .int .i64 a0_2, .int .i64 a0_3], .agg #[.int .i64 0, .slice Ao39 t364.length co39]] (by rfl) rfl rfl zG ?_
     with_reducible refine (impl_FitsField.calls a0_0 a0_1 a0_2 a0_3 0 _ _ t364 t369 _ ?side1 ?side2 A31.out).mono ?_
     (case side1 => repeat (first | exact (Kd.R_reads' HO366.out).2.2 | (with_reducible refine Kd.C_alloc ?_ _) | (with_reducible refine Kd.C_drewN ?_ _) | (with_reducible refine Kd.C_drew ?_)))
     (case side2 => exact (Kd.R_reads' HO366.out).2.1)
     rintro e w46 ⟨rfl, hb⟩
     refine ⟨_, rfl, ?_⟩
     replace HO366 := Aside0.mk (Kd.R_below (zR HO366) hb)
     replace BK355 := kB BK355 hb
     replace BK356 := kB BK356 hb
     replace BK367 := kB BK367 hb
     replace HB := bS HB hb
     (try clear hb)
     (try clear hb2)
     (try clear hk)
     (try clear hi)
     refine hK.out _ _ ⟨bc0 BK367, bc1 BK367, bc0 BK355, bc1 BK355, bc2 BK355, bc3 BK355, (hL HB hw368_0)⟩ (fun hHeld => ?_)
     clear hK K
     refine norm_ (a' := ?_) ?_ ?_
     rotate_left
     ·show Act.put _ (some 51) _ = _
      simp only [Act.put, List.setIfInBounds_toArray, List.set_cons_zero, List.set_cons_succ, i64_w, i32_w]
      rfl
     refine one_ (i := 8) (N := none) (bm 11 511) rfl rfl (one_of HT_.out (by kernel_rfl)) (by decide) (fun K hK => ?_)
     have hs47 : w46.cell? ⟨gb356, 0, none⟩ = some (.int .i64 0) := bc0 BK356
     have hfs47 := bf BK356 0
     have hns47_0 := NB355_356.out
     have hns47_2 := NB367_356.out
     have hms47_0 := NB356_355.out
     have hms47_2 := NB356_367.out
     have hs48 : w46.cell? ⟨gb356, 1, none⟩ = some (.slice none 0 0) := bc1 BK356
     have hfs48 := bf BK356 1
     have hns48_0 := NB355_356.out
     have hns48_2 := NB367_356.out
     have hms48_0 := NB356_355.out
     have hms48_2 := NB356_367.out
     refine skip_ (w1 := ?_) (by rfl) rfl ?_ ?_
     rotate_left
     ·go_simp
      rfl
     refine hK.out _ _ ⟨((cell_far (p := ⟨gb356, _, none⟩) NB367_356.out _).trans (((cell_far (p := ⟨gb356, _, none⟩) NB367_356.out _).trans (hHeld.1)))), ((cell_far (p := ⟨gb356, _, none⟩) NB367_356.out _).trans (((cell_far (p := ⟨gb356, _, none⟩) NB367_356.out _).trans (hHeld.2.1)))), ((cell_far (p := ⟨gb356, _, none⟩) NB355_356.out _).trans (((cell_far (p := ⟨gb356, _, none⟩) NB355_356.out _).trans (hHeld.2.2.1)))), ((cell_far (p := ⟨gb356, _, none⟩) NB355_356.out _).trans (((cell_far (p := ⟨gb356, _, none⟩) NB355_356.out _).trans (hHeld.2.2.2.1)))), ((cell_far (p := ⟨gb356, _, none⟩) NB355_356.out _).trans (((cell_far (p := ⟨gb356, _, none⟩) NB355_356.out _).trans (hHeld.2.2.2.2.1)))), ((cell_far (p := ⟨gb356, _, none⟩) NB355_356.out _).trans (((cell_far (p := ⟨gb356, _, none⟩) NB355_356.out _).trans (hHeld.2.2.2.2.2.1)))), ((cell_far (p := ⟨gb356, _, none⟩) (by first | exact Nat.ne_of_lt (Nat.lt_of_lt_of_le (by have := World.block_lt_of_cell? _ _ hw368_0; first | rwa [add_block] at this | exact this) GW356.out) | (rw [add_block]; exact Nat.ne_of_lt (Nat.lt_of_lt_of_le (by have := World.block_lt_of_cell? _ _ hw368_0; first | rwa [add_block] at this | exact this) GW356.out)) | (show (Addr.add _ _).block ≠ _; rw [add_block]; exact Nat.ne_of_lt (Nat.lt_of_lt_of_le (by have := World.block_lt_of_cell? _ _ hw368_0; first | rwa [add_block] at this | exact this) GW356.out)) | (dsimp only; exact Nat.ne_of_lt (Nat.lt_of_lt_of_le (by have := World.block_lt_of_cell? _ _ hw368_0; first | rwa [add_block] at this | exact this) GW356.out))) _).trans (((cell_far (p := ⟨gb356, _, none⟩) (by first | exact Nat.ne_of_lt (Nat.lt_of_lt_of_le (by have := World.block_lt_of_cell? _ _ hw368_0; first | rwa [add_block] at this | exact this) GW356.out) | (rw [add_block]; exact Nat.ne_of_lt (Nat.lt_of_lt_of_le (by have := World.block_lt_of_cell? _ _ hw368_0; first | rwa [add_block] at this | exact this) GW356.out)) | (show (Addr.add _ _).block ≠ _; rw [add_block]; exact Nat.ne_of_lt (Nat.lt_of_lt_of_le (by have := World.block_lt_of_cell? _ _ hw368_0; first | rwa [add_block] at this | exact this) GW356.out)) | (dsimp only; exact Nat.ne_of_lt (Nat.lt_of_lt_of_le (by have := World.block_lt_of_cell? _ _ hw368_0; first | rwa [add_block] at this | exact this) GW356.out))) _).trans (hHeld.2.2.2.2.2.2))))⟩ (fun hHeld => ?_)
     clear hK K
     refine pU 9 (some 5) (bm 11 1023) HT_ rfl rfl ?_
     refine pU 10 (some 6) (bm 11 2047) HT_ rfl rfl ?_
     refine done_ (done_of HT_.out (by kernel_rfl)) ?_
     try clear hHeld
     try go_wp2
     refine bodyPost_ret (results_ctt rfl _ _ gb356 58 #[.int .i64 0, .slice Ao39 t364.length co39] (0, 0) _ rfl (by (with_reducible repeat (first | refine blk_drewN ?_ _ | refine blk_drew ?_ | refine blk_alloc ?_ _)); refine blk_put (cs := #[.int .i64 0, .slice none 0 0]) ?_ 1 _ rfl; (with_reducible repeat (first | refine blk_drewN ?_ _ | refine blk_drew ?_ | refine blk_alloc ?_ _)); refine blk_put (cs := #[.int .i64 0, .slice none 0 0]) ?_ 0 _ rfl; (with_reducible repeat (first | refine blk_drewN ?_ _ | refine blk_drew ?_ | refine blk_alloc ?_ _)); exact BK356.out) Try.underlying58 rfl (by kernel_rfl)) rfl ?_
     exact ⟨_, by first | rfl | (simp [errW_none, errW_some] <;> rfl) | (simp only [← hji25]; first | rfl | (simp [errW_none, errW_some] <;> rfl)) | (simp [*, errW_none, errW_some] <;> rfl), by (with_reducible repeat (first | apply Kd.R_alloc | apply Kd.R_drewN | apply Kd.R_drew)); exact Kd.R_mono (Kd.R_far (p := ⟨gb356, 1, none⟩) (Kd.R_far (p := ⟨gb356, 0, none⟩) (Kd.R_types HO366.out BK356.out (by decide)) (fun _ hk => hk.2) (.int .i64 0)) (fun _ hk => hk.2) (.slice Ao39 t364.length co39)) (fun _ hk => trivial), zB HB⟩
    ·replace c27 := Bool.eq_false_iff.mpr c27
     subst c27
     have H1 : (some (0, ([] : List Int), 0, false)) = some (r1, r2, r3, r4) := by rw [if_neg (show ¬ (false = true) by decide)] at H; exact H
     clear H
     have H := H1
     clear H1
     simp only [Option.some.injEq, Prod.mk.injEq] at H
     obtain ⟨rfl, rfl, rfl, rfl⟩ := H
     go_enter Try.func48, Try.ntmps48
     try go_wp2_with (first | ((with_reducible refine gate_dst (N := 2) rfl ?_); refine box_event ?hg (N := 2) ?hd (cs := #[.int .i64 a0_0, .int .i64 a0_1, .int .i64 a0_2, .int .i64 a0_3]) (t := 47) ?hr ?_; (case hd => rfl); (case hg => rfl); (case hr => first | (go_simp; done) | (go_simp; rfl)); intro gb355 hg w49 hbox hb; have BK355 := Aside0.mk (hbox); have GW355 := gS HB hg; have GE355 := gS HB hg; replace HB := bS HB hb; clear hb hbox hg) | ((with_reducible refine gate_dst (N := 4) rfl ?_); refine box_event ?hg (N := 4) ?hd (cs := #[.int .i64 0, .slice none 0 0]) (t := 58) ?hr ?_; (case hd => rfl); (case hg => rfl); (case hr => first | (go_simp; done) | (go_simp; rfl)); intro gb356 hg w50 hbox hb; have BK356 := Aside0.mk (hbox); have GW356 := gS HB hg; have GE356 := gS HB hg; replace HB := bS HB hb; have NB355_356 := nL BK355 hg; have NB356_355 := nR BK355 hg; replace BK355 := kB BK355 hb; clear hb hbox hg; have hnb51 := NB355_356.out; have hnc51 := NB356_355.out; have hcz52_0 := bc0 BK355; have hcz52_1 := bc1 BK355; have hcz52_2 := bc2 BK355; have hcz52_3 := bc3 BK355; have hfz52_0 := bf BK355 0; have hfz52_1 := bf BK355 1; have hfz52_2 := bf BK355 2; have hfz52_3 := bf BK355 3))
     replace BK355 := Aside0.mk (blk_drew BK355.out)
     replace BK356 := Aside0.mk (blk_drew BK356.out)
     replace HB := Aside0.mk (below_drew1 HB.out)
     have p360 : 0 ≤ (0 : Int) := (by omega)
     have q360 : 0 < (l1.length : Int) := zD
     obtain ⟨ad360, e360, hx360_0⟩ := Kd.at_int HR1.out 0 p360 q360
     have hw360_0 := hx360_0
     (try rw [show ((0 : Int)).toNat = 0 from rfl] at hw360_0)
     (try rw [show 0 * 1 = 0 from rfl] at hw360_0)
     (try rw [Addr.add_zero'] at hw360_0)
     cases e360
     have qi360 : (0 < l1.length) = True := eq_true (by omega)
     (try rw [show ((0 : Int)).toNat = 0 from rfl] at hx360_0)
     (try rw [Addr.add_zero'] at hx360_0)
     replace hx360_0 := hL HB hx360_0
     replace p360 := eq_true p360
     replace q360 := eq_true q360
     refine start_ (n := 11) (S := fun w' => w'.cell? ⟨gb355, 0, none⟩ = some (.int .i64 a0_0) ∧ w'.cell? ⟨gb355, 1, none⟩ = some (.int .i64 a0_1) ∧ w'.cell? ⟨gb355, 2, none⟩ = some (.int .i64 a0_2) ∧ w'.cell? ⟨gb355, 3, none⟩ = some (.int .i64 a0_3) ∧ w'.cell? ad360 = some (.int .i64 (rd l1 0))) (ds := []) (bm 11 0) (by kernel_rfl) rfl (bm0 _) ⟨bc0 BK355, bc1 BK355, bc2 BK355, bc3 BK355, (hL HB hw360_0)⟩ (fun hHeld => ?_); refine with_tabW impl_readField.tab6 impl_readField.bits6 (fun HT_ HW_ => ?_)
     generalize w50.drew = w53 at BK355 BK356 HB hx360_0 hHeld ⊢
     refine pU 0 (some 24) (bm 11 1) HT_ rfl rfl ?_
     refine pU 1 (some 25) (bm 11 3) HT_ rfl rfl ?_
     refine pU 3 (some 27) (bm 11 11) HT_ rfl rfl ?_
     refine pU 5 (some 29) (bm 11 43) HT_ rfl rfl ?_
     refine pU 6 (some 30) (bm 11 107) HT_ rfl rfl ?_
     refine pU 7 (some 31) (bm 11 235) HT_ rfl rfl ?_
     refine tU 2 (some 26) (bm 11 239) HT_ HW_ rfl rfl hHeld ?_
     refine tU 4 (some 28) (bm 11 255) HT_ HW_ rfl rfl hHeld ?_
     refine pU 8 (some 32) (bm 11 511) HT_ rfl rfl ?_
     refine one_ (i := 9) (N := some 33) (bm 11 1023) rfl rfl (one_of HT_.out (by kernel_rfl)) (by decide) (fun K hK => ?_)
     refine goes_ Try.func33 (by kernel_rfl) rfl #[.int .i64 (rd l1 0), .int .i64 0, .int .i64 ji25] (by rfl) rfl rfl (by (try simp only [List.map_toArray, List.map_cons, List.map_nil]); first | done | (simp only [hji25]; rfl) | rfl | (simp only [List.length_drop, List.length_take]; rfl)) ?_
     with_reducible refine (impl_InRange.calls (rd l1 0) 0 ji25 false _ A26.out).mono ?_
     rintro e w' ⟨rfl, ⟨nd, rfl⟩⟩
     refine ⟨_, rfl, ?_⟩
     refine hK.out _ _ ⟨bc0 BK355, bc1 BK355, bc2 BK355, bc3 BK355, (hL HB hw360_0)⟩ (fun hHeld => ?_)
     clear hK K
     refine norm_ (a' := ?_) ?_ ?_
     rotate_left
     ·show Act.put _ (some 33) _ = _
      simp only [Act.put, List.setIfInBounds_toArray, List.set_cons_zero, List.set_cons_succ, i64_w, i32_w]
      rfl
     refine pU 10 (some 34) (bm 11 2047) HT_ rfl rfl ?_
     refine done_ (done_of HT_.out (by kernel_rfl)) ?_
     try clear hHeld
     have hcz54_0 := bc0 BK356
     have hcz54_1 := bc1 BK356
     have hfz54_0 := bf BK356 0
     have hfz54_1 := bf BK356 1
     try go_wp2
     refine bodyPost_ret (results_ctt rfl _ _ gb356 58 #[.int .i64 0, .slice none 0 0] (0, 0) _ rfl (by (with_reducible repeat (first | refine blk_drewN ?_ _ | refine blk_drew ?_ | refine blk_alloc ?_ _)); refine blk_put (cs := #[.int .i64 0, .slice none 0 0]) ?_ 1 _ rfl; (with_reducible repeat (first | refine blk_drewN ?_ _ | refine blk_drew ?_ | refine blk_alloc ?_ _)); refine blk_put (cs := #[.int .i64 0, .slice none 0 0]) ?_ 0 _ rfl; (with_reducible repeat (first | refine blk_drewN ?_ _ | refine blk_drew ?_ | refine blk_alloc ?_ _)); exact BK356.out) Try.underlying58 rfl (by kernel_rfl)) rfl ?_
     exact ⟨_, by first | rfl | (simp [errW_none, errW_some] <;> rfl) | (simp only [← hji25]; first | rfl | (simp [errW_none, errW_some] <;> rfl)) | (simp [*, errW_none, errW_some] <;> rfl), by first | exact Kd.R_nil _ _ _ _ _ | exact Kd.N_nil _ _ _ _ _ | exact Kd.V_nil _ _ _ _ _ | exact Kd.Q_nil _ _ _ _ _ | exact Kd.S_nil _ _ _ _ _, zB HB⟩
   ·rw [if_neg c24] at H
    exact absurd H (by simp)

end Go.Proofs.Yticpmgofegaaeaa.PFnExactLostBy
