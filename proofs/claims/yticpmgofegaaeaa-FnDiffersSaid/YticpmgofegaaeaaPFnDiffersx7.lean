-- WRITTEN by pp.py, this session's own wrapper around the print; not trusted: Lean checks it
import Derived.Test.YticpmgofegaaeaaPFnDiffersx0
import Derived.Test.YticpmgofegaaeaaPFnDiffersx2
import Derived.Test.YticpmgofegaaeaaPFnDiffersx3
import Derived.Test.YticpmgofegaaeaaPFnDiffersx5
import Derived.Test.YticpmgofegaaeaaPFnDiffersx6
namespace Go.Proofs.Yticpmgofegaaeaa.PFnDiffers
open Go.RowKit Go.Proofs.Yticpmgofegaaeaa.Hw Go.Proofs.YticpmgofegaaeaaW.PrintWords Go.Proofs.YticpmgofegaaeaaW.PrintLast Go.Proofs.YticpmgofegaaeaaW.PrintMore
attribute [local go_sem] max2_int min2_int max_two min_two max_three min_three max_four min_four   -- for this text's walks alone
set_option linter.unusedVariables false
set_option linter.unusedSimpArgs false
set_option linter.unusedSectionVars false

/-! ### impl_ReadPrefix: function 29 -/
def impl_ReadPrefix.l0 : Nat → List (S47) → List Int → List (S58) → Int → List (S47) → Int → Int → Option ((List (S58)) × Int)
 | 0, _, _, _, _, _, _, _ => none
 | k + 1, x0, x1, x6, x7, x17, x18, x19 => if x19 < x18 then (if 0 ≤ x19 then (if x19 < (x17.length : Int) then ((impl_IsThere.f x0 x6 x19).bind fun t229 => (if t229 = true then (if 0 ≤ x7 then (if x7 ≤ (x1.length : Int) then ((impl_readField.f ((rd_T47 x17 x19).f0) ((rd_T47 x17 x19).f1) ((rd_T47 x17 x19).f2) ((rd_T47 x17 x19).f3) (x1.drop (x7 : Int).toNat)).bind fun bt231 => (if bt231.2.2.2 = true then (if x6.length < 4398046511104 then (impl_ReadPrefix.l0 k x0 x1 (x6 ++ [(⟨bt231.1, bt231.2.1⟩ : S58)]) (wrap64 (x7 + bt231.2.2.1)) x17 x18 (wrap64 (x19 + 1))) else (none)) else (some (([] : List (S58)), (-1))))) else (none)) else (none)) else (if x6.length < 4398046511104 then (impl_ReadPrefix.l0 k x0 x1 (x6 ++ [(⟨0, ([] : List Int)⟩ : S58)]) x7 x17 x18 (wrap64 (x19 + 1))) else (none)))) else (none)) else (none)) else (some (x6, x7))
def impl_ReadPrefix.f (k : Nat) (l0 : List (S47)) (l1 : List Int) : Option ((List (S58)) × Int) := (impl_IsFormat.f k l0).bind fun t226 => (if t226 = true then (impl_ReadPrefix.l0 k l0 l1 (([] : List (S58))) 0 l0 (l0.length : Int) 0) else (some (([] : List (S58)), (-1))))
theorem impl_ReadPrefix.mono_l : ∀ k, (∀ y0 y1 y2 y3 y4 y5 y6, LeO (impl_ReadPrefix.l0 k y0 y1 y2 y3 y4 y5 y6) (impl_ReadPrefix.l0 (k + 1) y0 y1 y2 y3 y4 y5 y6))
 | 0 => fun _ _ _ _ _ _ _ r h => by simp [impl_ReadPrefix.l0] at h
 | k + 1 => by
  have ih0 := impl_ReadPrefix.mono_l k
  ·intro y0 y1 y2 y3 y4 y5 y6
   unfold impl_ReadPrefix.l0
   repeat' first
   | (with_reducible exact ih0 _ _ _ _ _ _ _)
   | (with_reducible exact impl_IsFormat.mono _ _)
   | (with_reducible exact LeO.refl _)
   | (with_reducible exact LeO.none _)
   | (with_reducible refine LeO.ite ?_ ?_)
   | (with_reducible refine LeO.bind ?_ (fun _ => ?_))
   | exact ih0 _ _ _ _ _ _ _
   | exact impl_IsFormat.mono _ _
   | exact LeO.none _
   | refine LeO.ite ?_ ?_
   | refine LeO.bind ?_ (fun _ => ?_)
theorem impl_ReadPrefix.mono : ∀ a0 a1 k, LeO (impl_ReadPrefix.f k a0 a1) (impl_ReadPrefix.f (k + 1) a0 a1) := by
 intro a0 a1 k
 have ih0 := impl_ReadPrefix.mono_l k
 unfold impl_ReadPrefix.f
 repeat' first
   | (with_reducible exact ih0 _ _ _ _ _ _ _)
   | (with_reducible exact impl_IsFormat.mono _ _)
   | (with_reducible exact LeO.refl _)
   | (with_reducible exact LeO.none _)
   | (with_reducible refine LeO.ite ?_ ?_)
   | (with_reducible refine LeO.bind ?_ (fun _ => ?_))
   | exact ih0 _ _ _ _ _ _ _
   | exact impl_IsFormat.mono _ _
   | exact LeO.none _
   | refine LeO.ite ?_ ?_
   | refine LeO.bind ?_ (fun _ => ?_)
def impl_ReadPrefix.T9 : Bool × List (List Nat × List Nat) := (true, [([], []), ([], []), ([], []), ([1, 2], [1, 2]), ([0, 3], [0, 3]), ([4], [4]), ([5], [5]), ([5], [5]), ([5], [5]), ([], []), ([9, 6, 4, 0, 1, 2, 3, 4, 5, 6, 9], [6, 9]), ([7, 10, 0, 1, 2, 3, 4, 5, 6, 7, 9, 10], [7]), ([8, 11, 0, 1, 2, 3, 4, 5, 6, 7, 8, 9, 10, 11], [8])])
def impl_ReadPrefix.B9 : List Nat := [0, 0, 0, 6, 15, 31, 63, 63, 63, 0, 639, 1791, 4095]
theorem impl_ReadPrefix.tab9 : rtab .any (opsOf Try.f29 9) = impl_ReadPrefix.T9 := by kernel_rfl
theorem impl_ReadPrefix.bits9 : waitsOk impl_ReadPrefix.T9.2 impl_ReadPrefix.B9 = true := by kernel_rfl
set_option maxHeartbeats 8000000 in
set_option maxRecDepth 100000 in
theorem impl_ReadPrefix.calls (k : Nat) (A0 : Option Addr) (c0 : Nat) (l0 : List (S47)) (A1 : Option Addr) (c1 : Nat) (l1 : List Int) (r1 : List (S58)) (r2 : Int) (w : World) (hr0 : Kd.C k47 w A0 l0.length l0) (hc0 : l0.length ≤ c0) (hr1 : Kd.C (Kd.int .i64) w A1 l1.length l1) (hc1 : l1.length ≤ c1) (h : impl_ReadPrefix.f k l0 l1 = some (r1, r2)) :
  Calls Try.prog 29 #[.slice A0 l0.length c0, .slice A1 l1.length c1] w fun e w' => ∃ v0_ : Value, e = .returned (.tuple #[v0_, .int .i64 r2]) ∧ Kd.S k58 58 w' w.heap.size (fun _ => True) v0_ r1 ∧ Below w.heap.size w w' := by
 have hu47 := Try.underlying47
 have hu58 := Try.underlying58
 have HR0 := Aside0.mk hr0
 have HC0 := Aside0.mk hc0
 clear hr0 hc0
 have HR1 := Aside0.mk hr1
 have HC1 := Aside0.mk hc1
 clear hr1 hc1
 have HB := Aside0.mk (Below.refl w.heap.size w)
 have H : ((impl_IsFormat.f k l0).bind fun t226 => (if t226 = true then (impl_ReadPrefix.l0 k l0 l1 (([] : List (S58))) 0 l0 (l0.length : Int) 0) else (some (([] : List (S58)), (-1))))) = some (r1, r2) := h
 clear h
 obtain ⟨y223, hy223⟩ : ∃ y_ : List (S58), y_ = (([] : List (S58))) := ⟨_, rfl⟩
 replace H : ((impl_IsFormat.f k l0).bind fun t226 => (if t226 = true then (impl_ReadPrefix.l0 k l0 l1 y223 0 l0 (l0.length : Int) 0) else (some (([] : List (S58)), (-1))))) = some (r1, r2) := by first | (rw [hy223]; with_reducible exact H) | (have H2_ := (Option.bind_some _ _).symm.trans H; rw [hy223]; with_reducible exact H2_) | (have H2_ := (Option.bind_some _ _).symm.trans H; with_reducible exact H2_) | with_reducible exact H | (rw [hy223]; exact H) | exact H
 have Ny223 := Aside0.mk hy223
 clear hy223
 obtain ⟨t226, A3, H⟩ := bindS H
 by_cases c4 : t226 = true
 ·subst c4
  have H1 : (impl_ReadPrefix.l0 k l0 l1 y223 0 l0 (l0.length : Int) 0) = some (r1, r2) := by rw [if_pos rfl] at H; exact H
  clear H
  have H := H1
  clear H1
  have H' := Aside0.mk H
  clear H
  go_enter Try.func29, Try.ntmps29
  go_wp2_with (first | ((with_reducible refine gate_dst (N := 13) rfl ?_); refine Kd.S_lit k58 _ 58 ?hg (N := 13) ?hd (xs := ([] : List (S58))) (inner := []) (ok := fun _ => True) (okp := fun _ => True) ?hr ?hp (fun _ hk => hk) trivial (Below.refl _ _) (Nat.le_refl _) (by simp) ?_; (case hd => rfl); (case hg => rfl); (case hr => first | (go_simp; done) | (go_simp; rfl)); (case hp => exact (Reps.none _ _)); intro v224 w5 ho6 hb hg_ hnew_; clear hg_ hnew_; (first | rw [← Ny223.out] at ho6 | (simp only [Int.reduceToNat] at ho6; rw [← Ny223.out] at ho6)); have HO225 := Aside0.mk (Kd.S_lower ho6 (below_size (zB HB))); replace HB := bS HB hb; clear hb ho6) | ((with_reducible refine gate_callee (f := 17) rfl ?_); refine goesL_ (some 15) rfl rfl Try.func17 (by kernel_rfl) rfl #[.slice A0 l0.length c0] rfl zG ?_; (with_reducible refine (impl_IsFormat.calls k _ _ l0 true _ ?side1 ?side2 A3.out).mono ?_); (case side1 => exact cS HR0 HB); (case side2 => exact HC0.out); rintro e w7 ⟨rfl, hb⟩; refine ⟨_, rfl, ?_⟩; replace HO225 := Aside0.mk (Kd.S_below (zS HO225) hb); replace HB := bS HB hb; (try clear hb)))
  go_loopg [6, 7, 19] k (fun kq v6 v7 v19 w' => ∃ (x6_1 : List (S58)) (x7_1 : Int) (x19_1 : Int), v7 = .int .i64 x7_1 ∧ v19 = .int .i64 x19_1 ∧ Aside0 (impl_ReadPrefix.l0 kq l0 l1 x6_1 x7_1 l0 (l0.length : Int) x19_1 = some (r1, r2)) ∧ Aside0 (kq ≤ k) ∧ Aside0 (Kd.S k58 58 w' w.heap.size (fun _ => True) v6 x6_1) ∧ Aside0 (Below w.heap.size w w'))
  case atStart => exact ⟨(y223), (0), (0), zF, zF, H', ⟨Nat.le_refl _⟩, ⟨zS HO225⟩, ⟨zB HB⟩⟩
  case round =>
   clear H'
   try clear c1
   try clear c2
   try clear p2
   try clear c4
   obtain ⟨x6_1, x7_1, x19_1, rfl, rfl, HA, HK1, HO_6, HB⟩ := hrel
   cases gk with
   | zero => exact absurd HA.out (by simp [impl_ReadPrefix.l0])
   | succ k1 =>
    have H := HA.out
    clear HA
    simp only [impl_ReadPrefix.l0] at H
    by_cases c8 : x19_1 < (l0.length : Int)
    ·rw [if_pos c8] at H
     have c8b0 : decide (x19_1 < (l0.length : Int)) = true := decide_eq_true c8
     clear c8
     obtain ⟨c9, H⟩ := ifS H
     have c9b0 : decide (0 ≤ x19_1) = true := decide_eq_true c9
     clear c9
     obtain ⟨c10, H⟩ := ifS H
     have c10b0 : decide (x19_1 < (l0.length : Int)) = true := decide_eq_true c10
     clear c10
     obtain ⟨t229, A11, H⟩ := bindS H
     by_cases c12 : t229 = true
     ·subst c12
      have H1 : (if 0 ≤ x7_1 then (if x7_1 ≤ (l1.length : Int) then ((impl_readField.f ((rd_T47 l0 x19_1).f0) ((rd_T47 l0 x19_1).f1) ((rd_T47 l0 x19_1).f2) ((rd_T47 l0 x19_1).f3) (l1.drop (x7_1 : Int).toNat)).bind fun bt231 => (if bt231.2.2.2 = true then (if x6_1.length < 4398046511104 then (impl_ReadPrefix.l0 k1 l0 l1 (x6_1 ++ [(⟨bt231.1, bt231.2.1⟩ : S58)]) (wrap64 (x7_1 + bt231.2.2.1)) l0 (l0.length : Int) (wrap64 (x19_1 + 1))) else (none)) else (some (([] : List (S58)), (-1))))) else (none)) else (none)) = some (r1, r2) := by rw [if_pos rfl] at H; exact H
      clear H
      have H := H1
      clear H1
      obtain ⟨c13, H⟩ := ifS H
      have c13b0 := eq_true c13
      have c13b1 : decide (0 ≤ x7_1) = true := decide_eq_true c13
      clear c13
      obtain ⟨c14, H⟩ := ifS H
      have c14b0 := eq_true c14
      have c14b1 : decide (x7_1 ≤ (l1.length : Int)) = true := decide_eq_true c14
      clear c14
      replace H := Option.bind_eq_some_iff.mp H
      obtain ⟨⟨t231, t232, t235, t236⟩, A150, H⟩ := H
      replace H : (if t236 = true then (if x6_1.length < 4398046511104 then (impl_ReadPrefix.l0 k1 l0 l1 (x6_1 ++ [(⟨t231, t232⟩ : S58)]) (wrap64 (x7_1 + t235)) l0 (l0.length : Int) (wrap64 (x19_1 + 1))) else (none)) else (some (([] : List (S58)), (-1)))) = some (r1, r2) := H
      have A15 := Aside0.mk A150
      clear A150
      by_cases c16 : t236 = true
      ·subst c16
       have H1 : (if x6_1.length < 4398046511104 then (impl_ReadPrefix.l0 k1 l0 l1 (x6_1 ++ [(⟨t231, t232⟩ : S58)]) (wrap64 (x7_1 + t235)) l0 (l0.length : Int) (wrap64 (x19_1 + 1))) else (none)) = some (r1, r2) := by rw [if_pos rfl] at H; exact H
       clear H
       have H := H1
       clear H1
       obtain ⟨c17, H⟩ := ifS H
       have LMc17 := Aside0.mk c17
       clear c17
       obtain ⟨y238, hy238⟩ : ∃ y_ : List (S58), y_ = (x6_1 ++ [(⟨t231, t232⟩ : S58)]) := ⟨_, rfl⟩
       replace H : (impl_ReadPrefix.l0 k1 l0 l1 y238 (wrap64 (x7_1 + t235)) l0 (l0.length : Int) (wrap64 (x19_1 + 1))) = some (r1, r2) := by first | (rw [hy238]; with_reducible exact H) | (have H2_ := (Option.bind_some _ _).symm.trans H; rw [hy238]; with_reducible exact H2_) | (have H2_ := (Option.bind_some _ _).symm.trans H; with_reducible exact H2_) | with_reducible exact H | (rw [hy238]; exact H) | exact H
       have Ny238 := Aside0.mk hy238
       clear hy238
       have H' := Aside0.mk H
       clear H
       have p227 : 0 ≤ (x19_1 : Int) := zD
       have q227 : x19_1 < (l0.length : Int) := zD
       obtain ⟨ad227, e227, hx227_0, hx227_1, hx227_2, hx227_3⟩ := at_T47 HR0.out x19_1 p227 q227
       cases e227
       replace hx227_0 := hL HB hx227_0
       replace hx227_1 := hL HB hx227_1
       replace hx227_2 := hL HB hx227_2
       replace hx227_3 := hL HB hx227_3
       replace p227 := eq_true p227
       replace q227 := eq_true q227
       try go_wp2_with (first | ((with_reducible refine gate_dst (N := 9) rfl ?_); refine box_event ?hg (N := 9) ?hd (cs := #[.int .i64 0, .int .i64 0, .int .i64 0, .int .i64 0]) (t := 47) ?hr ?_; (case hd => rfl); (case hg => rfl); (case hr => first | (go_simp; done) | (go_simp; rfl)); intro gb228 hg w18 hbox hb; replace HO_6 := Aside0.mk (Kd.S_below (zS HO_6) hb); have BK228 := Aside0.mk (hbox); have GW228 := gS HB hg; have GE228 := gS HB hg; replace HB := bS HB hb; clear hb hbox hg; have hcz19_0 := bc0 BK228; have hcz19_1 := bc1 BK228; have hcz19_2 := bc2 BK228; have hcz19_3 := bc3 BK228; have hfz19_0 := bf BK228 0; have hfz19_1 := bf BK228 1; have hfz19_2 := bf BK228 2; have hfz19_3 := bf BK228 3; obtain ⟨Ao20, co20, eo20⟩ := Kd.S_slice HO_6.out; subst eo20) | ((with_reducible refine gate_callee (f := 42) rfl ?_); refine goesL_ (some 27) rfl rfl Try.func42 (by kernel_rfl) rfl #[.slice (some ad227) l0.length c0, .slice Ao20 x6_1.length co20, .int .i64 x19_1] rfl zG ?_; (with_reducible refine (impl_IsThere.calls _ _ l0 _ _ x6_1 x19_1 true _ ?side1 ?side2 ?side3 ?side4 A11.out).mono ?_); (case side1 => exact Kd.C_below HR0.out (zB HB)); (case side2 => exact HC0.out); (case side3 => refine (Kd.S_reads' (e := 58) (base := w.heap.size) (ok := fun k_ => True) (n := x6_1.length) (c := co20) ?_).2.2; exact (by (with_reducible repeat (first | apply Kd.S_alloc | apply Kd.S_drewN | apply Kd.S_drew)); exact (Kd.S_mono (Kd.S_far (p := ⟨gb228, 3, none⟩) (Kd.S_far (p := ⟨gb228, 2, none⟩) (Kd.S_far (p := ⟨gb228, 1, none⟩) (Kd.S_far (p := ⟨gb228, 0, none⟩) (Kd.S_types HO_6.out BK228.out (by decide)) (fun _ hk => hk.2) (.int .i64 ((rd_T47 l0 x19_1).f0))) (fun _ hk => hk.2) (.int .i64 ((rd_T47 l0 x19_1).f1))) (fun _ hk => hk.2) (.int .i64 ((rd_T47 l0 x19_1).f2))) (fun _ hk => hk.2) (.int .i64 ((rd_T47 l0 x19_1).f3))) (fun _ h_ => h_.1)))); (case side4 => exact (Kd.S_reads' HO_6.out).2.1); rintro e w21 ⟨rfl, hb⟩; refine ⟨_, rfl, ?_⟩; replace HO_6 := Aside0.mk (Kd.S_below (by (with_reducible repeat (first | apply Kd.S_alloc | apply Kd.S_drewN | apply Kd.S_drew)); exact (Kd.S_mono (Kd.S_far (p := ⟨gb228, 3, none⟩) (Kd.S_far (p := ⟨gb228, 2, none⟩) (Kd.S_far (p := ⟨gb228, 1, none⟩) (Kd.S_far (p := ⟨gb228, 0, none⟩) (Kd.S_types HO_6.out BK228.out (by decide)) (fun _ hk => hk.2) (.int .i64 ((rd_T47 l0 x19_1).f0))) (fun _ hk => hk.2) (.int .i64 ((rd_T47 l0 x19_1).f1))) (fun _ hk => hk.2) (.int .i64 ((rd_T47 l0 x19_1).f2))) (fun _ hk => hk.2) (.int .i64 ((rd_T47 l0 x19_1).f3))) (fun _ h_ => h_.1))) hb); replace BK228 := Aside0.mk (blk_below (g := gb228) (o := .cells #[.int .i64 ((rd_T47 l0 x19_1).f0), .int .i64 ((rd_T47 l0 x19_1).f1), .int .i64 ((rd_T47 l0 x19_1).f2), .int .i64 ((rd_T47 l0 x19_1).f3)] 47 (0, 0)) (by (with_reducible repeat (first | refine blk_drewN ?_ _ | refine blk_drew ?_ | refine blk_alloc ?_ _)); refine blk_put (cs := #[.int .i64 ((rd_T47 l0 x19_1).f0), .int .i64 ((rd_T47 l0 x19_1).f1), .int .i64 ((rd_T47 l0 x19_1).f2), .int .i64 0]) ?_ 3 _ rfl; (with_reducible repeat (first | refine blk_drewN ?_ _ | refine blk_drew ?_ | refine blk_alloc ?_ _)); refine blk_put (cs := #[.int .i64 ((rd_T47 l0 x19_1).f0), .int .i64 ((rd_T47 l0 x19_1).f1), .int .i64 0, .int .i64 0]) ?_ 2 _ rfl; (with_reducible repeat (first | refine blk_drewN ?_ _ | refine blk_drew ?_ | refine blk_alloc ?_ _)); refine blk_put (cs := #[.int .i64 ((rd_T47 l0 x19_1).f0), .int .i64 0, .int .i64 0, .int .i64 0]) ?_ 1 _ rfl; (with_reducible repeat (first | refine blk_drewN ?_ _ | refine blk_drew ?_ | refine blk_alloc ?_ _)); refine blk_put (cs := #[.int .i64 0, .int .i64 0, .int .i64 0, .int .i64 0]) ?_ 0 _ rfl; (with_reducible repeat (first | refine blk_drewN ?_ _ | refine blk_drew ?_ | refine blk_alloc ?_ _)); exact BK228.out) hb); replace HB := bS HB hb; (try clear hb)))
       replace HO_6 := Aside0.mk (Kd.S_drew HO_6.out)
       replace BK228 := Aside0.mk (blk_drew BK228.out)
       replace HB := Aside0.mk (below_drew1 HB.out)
       obtain ⟨i023, hi023, _, hsz23, _⟩ := info_parts info3
       obtain ⟨A23, hcut23, hA23, hC23⟩ := print_drop_of (P := Try.prog) (Value.int .i64) 0 37 3 .i64 Try.underlying37 hi023 hsz23 A1 c1 l1 x7_1 (zD) (zD) HC1.out
       have HR230 := Aside0.mk (Kd.C_of_reads (h1 := fun _ => rfl) (hA23 _ (Kd.reads_of_C HR1.out)))
       have HC230 := Aside0.mk hC23
       clear hA23 hC23 hi023 hsz23
       refine start_ (n := 13) (S := fun w' => w'.cell? ⟨gb228, 0, none⟩ = some (.int .i64 ((rd_T47 l0 x19_1).f0)) ∧ w'.cell? ⟨gb228, 1, none⟩ = some (.int .i64 ((rd_T47 l0 x19_1).f1)) ∧ w'.cell? ⟨gb228, 2, none⟩ = some (.int .i64 ((rd_T47 l0 x19_1).f2)) ∧ w'.cell? ⟨gb228, 3, none⟩ = some (.int .i64 ((rd_T47 l0 x19_1).f3))) (ds := []) (bm 13 0) (by kernel_rfl) rfl (bm0 _) ⟨bc0 BK228, bc1 BK228, bc2 BK228, bc3 BK228⟩ (fun hHeld => ?_); refine with_tabW impl_ReadPrefix.tab9 impl_ReadPrefix.bits9 (fun HT_ HW_ => ?_)
       generalize w21.drew = w22 at HO_6 BK228 HB HR230 hHeld ⊢
       refine pU 1 (some 35) (bm 13 2) HT_ rfl rfl ?_
       refine pU 2 (some 36) (bm 13 6) HT_ rfl rfl ?_
       refine pU 3 (some 37) (bm 13 14) HT_ rfl rfl ?_
       refine tU 0 (some 34) (bm 13 15) HT_ HW_ rfl rfl hHeld ?_
       refine join_ (σ := Value × Nat) 3 (bm 13 1023) (fun s_ => [(38, .tuple #[.agg #[.int .i64 t231, s_.1], .int .i64 t235, .bool true]), (10, .pointer (some ⟨s_.2, 0, none⟩)), (33, .tuple #[.agg #[.int .i64 t231, s_.1], .int .i64 t235, .bool true]), (39, .agg #[.int .i64 t231, s_.1]), (40, .int .i64 t235), (41, .bool true)]) (fun s_ w' => (w'.cell? ⟨gb228, 0, none⟩ = some (.int .i64 ((rd_T47 l0 x19_1).f0)) ∧ w'.cell? ⟨gb228, 1, none⟩ = some (.int .i64 ((rd_T47 l0 x19_1).f1)) ∧ w'.cell? ⟨gb228, 2, none⟩ = some (.int .i64 ((rd_T47 l0 x19_1).f2)) ∧ w'.cell? ⟨gb228, 3, none⟩ = some (.int .i64 ((rd_T47 l0 x19_1).f3))) ∧ (Kd.R (Kd.int .i64) 3 w' w.heap.size (fun _ => True) s_.1 t232) ∧ (Kd.S k58 58 w' w.heap.size (fun k_ => some k_ ≠ (s_.1 : Value).ownBlock ∧ k_ ≠ s_.2) (.slice Ao20 x6_1.length co20) x6_1) ∧ (w'.heap[gb228]? = some (.cells #[.int .i64 ((rd_T47 l0 x19_1).f0), .int .i64 ((rd_T47 l0 x19_1).f1), .int .i64 ((rd_T47 l0 x19_1).f2), .int .i64 ((rd_T47 l0 x19_1).f3)] 47 (0, 0))) ∧ (w'.heap[s_.2]? = some (.cells #[.int .i64 0, .slice none 0 0] 58 (0, 0))) ∧ (w.heap.size ≤ s_.2) ∧ (w.heap.size ≤ s_.2) ∧ (gb228 ≠ s_.2) ∧ (s_.2 ≠ gb228) ∧ (Below w.heap.size w w')) ?_ ?_
       rotate_left
       ·intro hCont
        refine two_ (i := 4) (j := 9) (Ni := some 38) (Nj := some 10) (bm 13 31) (bm 13 527) rfl rfl rfl rfl (two_of HT_.out (by kernel_rfl)) (by decide) (by decide) (fun K hK => ?_) (fun K hK => ?_)
        ·skip
         refine goes_ Try.func48 (by kernel_rfl) rfl #[.agg #[.int .i64 ((rd_T47 l0 x19_1).f0), .int .i64 ((rd_T47 l0 x19_1).f1), .int .i64 ((rd_T47 l0 x19_1).f2), .int .i64 ((rd_T47 l0 x19_1).f3)], .slice A23 (l1.drop (x7_1 : Int).toNat).length (c1 - x7_1.toNat)] (by rfl) rfl rfl (by (try simp only [List.map_toArray, List.map_cons, List.map_nil]); first | done | (rw [show (l1.drop (x7_1 : Int).toNat).length = (l1.length - x7_1.toNat) from List.length_drop] <;> rfl) | rfl | (simp only [List.length_drop, List.length_take]; rfl)) ?_
         with_reducible refine (impl_readField.calls ((rd_T47 l0 x19_1).f0) ((rd_T47 l0 x19_1).f1) ((rd_T47 l0 x19_1).f2) ((rd_T47 l0 x19_1).f3) _ _ (l1.drop (x7_1 : Int).toNat) t231 t232 t235 true _ ?side1 ?side2 A15.out).mono ?_
         (case side1 => exact cS HR230 HB)
         (case side2 => exact HC230.out)
         rintro e w24 ⟨v233, rfl, ho0, hb⟩
         refine ⟨_, rfl, ?_⟩
         replace HO_6 := Aside0.mk (Kd.S_elder' (zS HO_6) (Kd.R_base ho0) hb)
         have HO234 := Aside0.mk (Kd.R_lower ho0 (below_size (zB HB)))
         replace BK228 := kB BK228 hb
         replace HB := bS HB hb
         (try clear hb)
         (try clear hb2)
         (try clear hk)
         (try clear hi)
         (try clear ho0)
         refine hK.out _ _ ⟨bc0 BK228, bc1 BK228, bc2 BK228, bc3 BK228⟩ (fun hHeld => ?_)
         clear hK K
         refine norm_ (a' := ?_) ?_ ?_
         rotate_left
         ·show Act.put _ (some 38) _ = _
          simp only [Act.put, List.setIfInBounds_toArray, List.set_cons_zero, List.set_cons_succ, i64_w, i32_w]
          rfl
         refine pU 5 (some 33) (bm 13 63) HT_ rfl rfl ?_
         refine pU 6 (some 39) (bm 13 127) HT_ rfl rfl ?_
         refine pU 7 (some 40) (bm 13 255) HT_ rfl rfl ?_
         refine pU 8 (some 41) (bm 13 511) HT_ rfl rfl ?_
         refine one_ (i := 9) (N := some 10) (bm 13 1023) rfl rfl (one_of HT_.out (by kernel_rfl)) (by decide) (fun K hK => ?_)
         refine box_step ?hg (N := 10) ?hd (cs := #[.int .i64 0, .slice none 0 0]) (t := 58) ?hr ?_; (case hd => rfl); (case hg => rfl); (case hr => first | (go_simp; done) | (go_simp; rfl))
         intro gb237 hg w25 hbox hb
         replace HO_6 := Aside0.mk (Kd.S_below (Kd.S_elderB (zS HO_6) gb237 (Nat.le_of_eq hg.symm)) hb)
         replace HO234 := Aside0.mk (Kd.R_below (zR HO234) hb)
         have BK237 := Aside0.mk (hbox)
         have GW237 := gS HB hg
         have GE237 := gS HB hg
         replace HB := bS HB hb
         have NB228_237 := nL BK228 hg
         have NB237_228 := nR BK228 hg
         replace BK228 := kB BK228 hb
         clear hb hbox hg
         refine hK.out _ _ ⟨bc0 BK228, bc1 BK228, bc2 BK228, bc3 BK228⟩ (fun hHeld => ?_)
         clear hK K
         refine norm_ (a' := ?_) ?_ ?_
         rotate_left
         ·show Act.put _ (some 10) _ = _
          simp only [Act.put, List.setIfInBounds_toArray, List.set_cons_zero, List.set_cons_succ, i64_w, i32_w]
          rfl
         exact norm_ (by simp only [putAll, Act.put, List.setIfInBounds_toArray, List.set_cons_zero, List.set_cons_succ]) (hCont (v233, gb237) _ ⟨hHeld, (zR HO234), (by (with_reducible repeat (first | apply Kd.S_alloc | apply Kd.S_drewN | apply Kd.S_drew)); exact Kd.S_mono HO_6.out (fun _ hk => ⟨hk.1.2, hk.2⟩)), (zK BK228), (zK BK237), GW237.out, GE237.out, NB228_237.out, NB237_228.out, (zB HB)⟩)
        ·skip
         refine box_step ?hg (N := 10) ?hd (cs := #[.int .i64 0, .slice none 0 0]) (t := 58) ?hr ?_; (case hd => rfl); (case hg => rfl); (case hr => first | (go_simp; done) | (go_simp; rfl))
         intro gb237 hg w24 hbox hb
         replace HO_6 := Aside0.mk (Kd.S_below (Kd.S_elderB (zS HO_6) gb237 (Nat.le_of_eq hg.symm)) hb)
         have BK237 := Aside0.mk (hbox)
         have GW237 := gS HB hg
         have GE237 := gS HB hg
         replace HB := bS HB hb
         have NB228_237 := nL BK228 hg
         have NB237_228 := nR BK228 hg
         replace BK228 := kB BK228 hb
         clear hb hbox hg
         refine hK.out _ _ ⟨bc0 BK228, bc1 BK228, bc2 BK228, bc3 BK228⟩ (fun hHeld => ?_)
         clear hK K
         refine norm_ (a' := ?_) ?_ ?_
         rotate_left
         ·show Act.put _ (some 10) _ = _
          simp only [Act.put, List.setIfInBounds_toArray, List.set_cons_zero, List.set_cons_succ, i64_w, i32_w]
          rfl
         refine one_ (i := 4) (N := some 38) (bm 13 543) rfl rfl (one_of HT_.out (by kernel_rfl)) (by decide) (fun K hK => ?_)
         refine goes_ Try.func48 (by kernel_rfl) rfl #[.agg #[.int .i64 ((rd_T47 l0 x19_1).f0), .int .i64 ((rd_T47 l0 x19_1).f1), .int .i64 ((rd_T47 l0 x19_1).f2), .int .i64 ((rd_T47 l0 x19_1).f3)], .slice A23 (l1.drop (x7_1 : Int).toNat).length (c1 - x7_1.toNat)] (by rfl) rfl rfl (by (try simp only [List.map_toArray, List.map_cons, List.map_nil]); first | done | (rw [show (l1.drop (x7_1 : Int).toNat).length = (l1.length - x7_1.toNat) from List.length_drop] <;> rfl) | rfl | (simp only [List.length_drop, List.length_take]; rfl)) ?_
         with_reducible refine (impl_readField.calls ((rd_T47 l0 x19_1).f0) ((rd_T47 l0 x19_1).f1) ((rd_T47 l0 x19_1).f2) ((rd_T47 l0 x19_1).f3) _ _ (l1.drop (x7_1 : Int).toNat) t231 t232 t235 true _ ?side1 ?side2 A15.out).mono ?_
         (case side1 => exact cS HR230 HB)
         (case side2 => exact HC230.out)
         rintro e w25 ⟨v233, rfl, ho0, hb⟩
         refine ⟨_, rfl, ?_⟩
         replace HO_6 := Aside0.mk (Kd.S_elder' (zS HO_6) (Kd.R_base ho0) hb)
         have HO234 := Aside0.mk (Kd.R_lower ho0 (below_size (zB HB)))
         replace BK228 := kB BK228 hb
         replace BK237 := kB BK237 hb
         replace HB := bS HB hb
         (try clear hb)
         (try clear hb2)
         (try clear hk)
         (try clear hi)
         (try clear ho0)
         refine hK.out _ _ ⟨bc0 BK228, bc1 BK228, bc2 BK228, bc3 BK228⟩ (fun hHeld => ?_)
         clear hK K
         refine norm_ (a' := ?_) ?_ ?_
         rotate_left
         ·show Act.put _ (some 38) _ = _
          simp only [Act.put, List.setIfInBounds_toArray, List.set_cons_zero, List.set_cons_succ, i64_w, i32_w]
          rfl
         refine pU 5 (some 33) (bm 13 575) HT_ rfl rfl ?_
         refine pU 6 (some 39) (bm 13 639) HT_ rfl rfl ?_
         refine pU 7 (some 40) (bm 13 767) HT_ rfl rfl ?_
         refine pU 8 (some 41) (bm 13 1023) HT_ rfl rfl ?_
         exact norm_ (by simp only [putAll, Act.put, List.setIfInBounds_toArray, List.set_cons_zero, List.set_cons_succ]) (hCont (v233, gb237) _ ⟨hHeld, (zR HO234), (by (with_reducible repeat (first | apply Kd.S_alloc | apply Kd.S_drewN | apply Kd.S_drew)); exact Kd.S_mono HO_6.out (fun _ hk => ⟨hk.2, hk.1.2⟩)), (zK BK228), (zK BK237), GW237.out, GE237.out, NB228_237.out, NB237_228.out, (zB HB)⟩)
       rintro ⟨v233, gb237⟩ w26 ⟨hS_, h0_, h1_, h2_, h3_, h4_, h5_, h6_, h7_, h8_⟩
       have HO234 : Aside0 (Kd.R (Kd.int .i64) 3 w26 w.heap.size (fun _ => True) v233 t232) := ⟨h0_⟩
       replace HO_6 : Aside0 (Kd.S k58 58 w26 w.heap.size (fun k_ => some k_ ≠ (v233 : Value).ownBlock ∧ k_ ≠ gb237) (.slice Ao20 x6_1.length co20) x6_1) := ⟨h1_⟩
       replace BK228 : Aside0 (w26.heap[gb228]? = some (.cells #[.int .i64 ((rd_T47 l0 x19_1).f0), .int .i64 ((rd_T47 l0 x19_1).f1), .int .i64 ((rd_T47 l0 x19_1).f2), .int .i64 ((rd_T47 l0 x19_1).f3)] 47 (0, 0))) := ⟨h2_⟩
       have BK237 : Aside0 (w26.heap[gb237]? = some (.cells #[.int .i64 0, .slice none 0 0] 58 (0, 0))) := ⟨h3_⟩
       have GW237 : Aside0 (w.heap.size ≤ gb237) := ⟨h4_⟩
       have GE237 : Aside0 (w.heap.size ≤ gb237) := ⟨h5_⟩
       have NB228_237 : Aside0 (gb228 ≠ gb237) := ⟨h6_⟩
       have NB237_228 : Aside0 (gb237 ≠ gb228) := ⟨h7_⟩
       replace HB : Aside0 (Below w.heap.size w w26) := ⟨h8_⟩
       clear h0_ h1_ h2_ h3_ h4_ h5_ h6_ h7_ h8_
       have hHeld : w26.cell? ⟨gb228, 0, none⟩ = some (.int .i64 ((rd_T47 l0 x19_1).f0)) ∧ w26.cell? ⟨gb228, 1, none⟩ = some (.int .i64 ((rd_T47 l0 x19_1).f1)) ∧ w26.cell? ⟨gb228, 2, none⟩ = some (.int .i64 ((rd_T47 l0 x19_1).f2)) ∧ w26.cell? ⟨gb228, 3, none⟩ = some (.int .i64 ((rd_T47 l0 x19_1).f3)) := hS_
       obtain ⟨Ao28, co28, eo28⟩ := Kd.R_slice HO234.out
       (first | subst eo28 | (injection eo28 with f1_ f2_ f3_; have f4_ := f1_.symm; have f5_ := f3_.symm; clear f1_ f2_ f3_; subst f4_; subst f5_))
       refine norm_ (a' := ?_) ?_ ?_
       rotate_left
       ·simp only [putAll, Act.put, List.setIfInBounds_toArray, List.set_cons_zero, List.set_cons_succ]
        rfl
       refine one_ (i := 10) (N := none) (bm 13 2047) rfl rfl (one_of HT_.out (by kernel_rfl)) (by decide) (fun K hK => ?_)
       have hs27 : w26.cell? ⟨gb237, 0, none⟩ = some (.int .i64 0) := bc0 BK237
       have hfs27 := bf BK237 0
       have hns27_0 := NB228_237.out
       have hms27_0 := NB237_228.out
       have hs29 : w26.cell? ⟨gb237, 1, none⟩ = some (.slice none 0 0) := bc1 BK237
       have hfs29 := bf BK237 1
       have hns29_0 := NB228_237.out
       have hms29_0 := NB237_228.out
       refine skip_ (w1 := ?_) (by rfl) rfl ?_ ?_
       rotate_left
       ·go_simp
        rfl
       refine hK.out _ _ ⟨((cell_far (p := ⟨gb237, _, none⟩) NB228_237.out _).trans (((cell_far (p := ⟨gb237, _, none⟩) NB228_237.out _).trans (hHeld.1)))), ((cell_far (p := ⟨gb237, _, none⟩) NB228_237.out _).trans (((cell_far (p := ⟨gb237, _, none⟩) NB228_237.out _).trans (hHeld.2.1)))), ((cell_far (p := ⟨gb237, _, none⟩) NB228_237.out _).trans (((cell_far (p := ⟨gb237, _, none⟩) NB228_237.out _).trans (hHeld.2.2.1)))), ((cell_far (p := ⟨gb237, _, none⟩) NB228_237.out _).trans (((cell_far (p := ⟨gb237, _, none⟩) NB228_237.out _).trans (hHeld.2.2.2))))⟩ (fun hHeld => ?_)
       clear hK K
       refine pU 11 (some 11) (bm 13 4095) HT_ rfl rfl ?_
       refine pU 12 (some 12) (bm 13 8191) HT_ rfl rfl ?_
       refine done_ (done_of HT_.out (by kernel_rfl)) ?_
       try clear hHeld
       have n0_ : Aside0 (Kd.S k58 58 ((w26.setCell ⟨gb237, 0, none⟩ (.int .i64 t231)).setCell ⟨gb237, 1, none⟩ (.slice Ao28 t232.length co28)) w.heap.size (fun k_ => some k_ ≠ (.slice Ao28 t232.length co28 : Value).ownBlock ∧ k_ ≠ gb237) (.slice Ao20 x6_1.length co20) x6_1) := ⟨by (with_reducible repeat (first | apply Kd.S_alloc | apply Kd.S_drewN | apply Kd.S_drew)); exact Kd.S_mono (Kd.S_far (p := ⟨gb237, 1, none⟩) (Kd.S_far (p := ⟨gb237, 0, none⟩) (Kd.S_mono HO_6.out (fun k_ hk => (⟨hk, hk.2⟩ : _ ∧ k_ ≠ gb237))) (fun _ hk => hk.2) (.int .i64 t231)) (fun _ hk => hk.2) (.slice Ao28 t232.length co28)) (fun _ hk => ⟨hk.1.1, hk.1.2⟩)⟩
       have n1_ : Aside0 (Kd.R (Kd.int .i64) 3 ((w26.setCell ⟨gb237, 0, none⟩ (.int .i64 t231)).setCell ⟨gb237, 1, none⟩ (.slice Ao28 t232.length co28)) w.heap.size (fun _ => True) (.slice Ao28 t232.length co28) t232) := ⟨by (with_reducible repeat (first | apply Kd.R_alloc | apply Kd.R_drewN | apply Kd.R_drew)); exact Kd.R_mono (Kd.R_far (p := ⟨gb237, 1, none⟩) (Kd.R_far (p := ⟨gb237, 0, none⟩) (Kd.R_types HO234.out BK237.out (by decide)) (fun _ hk => hk.2) (.int .i64 t231)) (fun _ hk => hk.2) (.slice Ao28 t232.length co28)) (fun _ hk => trivial)⟩
       have n2_ : Aside0 (((w26.setCell ⟨gb237, 0, none⟩ (.int .i64 t231)).setCell ⟨gb237, 1, none⟩ (.slice Ao28 t232.length co28)).heap[gb228]? = some (.cells #[.int .i64 ((rd_T47 l0 x19_1).f0), .int .i64 ((rd_T47 l0 x19_1).f1), .int .i64 ((rd_T47 l0 x19_1).f2), .int .i64 ((rd_T47 l0 x19_1).f3)] 47 (0, 0))) := ⟨by (with_reducible repeat (first | refine blk_drewN ?_ _ | refine blk_drew ?_ | refine blk_alloc ?_ _)); refine blk_far ?_ NB228_237.out _; (with_reducible repeat (first | refine blk_drewN ?_ _ | refine blk_drew ?_ | refine blk_alloc ?_ _)); refine blk_far ?_ NB228_237.out _; (with_reducible repeat (first | refine blk_drewN ?_ _ | refine blk_drew ?_ | refine blk_alloc ?_ _)); exact BK228.out⟩
       have n3_ : Aside0 (((w26.setCell ⟨gb237, 0, none⟩ (.int .i64 t231)).setCell ⟨gb237, 1, none⟩ (.slice Ao28 t232.length co28)).heap[gb237]? = some (.cells #[.int .i64 t231, .slice Ao28 t232.length co28] 58 (0, 0))) := ⟨by (with_reducible repeat (first | refine blk_drewN ?_ _ | refine blk_drew ?_ | refine blk_alloc ?_ _)); refine blk_put (cs := #[.int .i64 t231, .slice none 0 0]) ?_ 1 _ rfl; (with_reducible repeat (first | refine blk_drewN ?_ _ | refine blk_drew ?_ | refine blk_alloc ?_ _)); refine blk_put (cs := #[.int .i64 0, .slice none 0 0]) ?_ 0 _ rfl; (with_reducible repeat (first | refine blk_drewN ?_ _ | refine blk_drew ?_ | refine blk_alloc ?_ _)); exact BK237.out⟩
       have n4_ : Aside0 (Below w.heap.size w ((w26.setCell ⟨gb237, 0, none⟩ (.int .i64 t231)).setCell ⟨gb237, 1, none⟩ (.slice Ao28 t232.length co28))) := ⟨zB HB⟩
       (try clear HO_6)
       (try clear HO234)
       (try clear BK228)
       (try clear BK237)
       (try clear HB)
       generalize ((w26.setCell ⟨gb237, 0, none⟩ (.int .i64 t231)).setCell ⟨gb237, 1, none⟩ (.slice Ao28 t232.length co28)) = w30 at n0_ n1_ n2_ n3_ n4_ ⊢
       have HO_6 := n0_
       have HO234 := n1_
       have BK228 := n2_
       have BK237 := n3_
       have HB := n4_
       clear n0_ n1_ n2_ n3_ n4_
       have hnb31 := NB237_228.out
       have hnc31 := NB228_237.out
       have hcz32_0 := bc0 BK237
       have hcz32_1 := bc1 BK237
       have hfz32_0 := bf BK237 0
       have hfz32_1 := bf BK237 1
       try go_wp2_with (first | ((with_reducible refine gate_builtin (b := .append) (xs := #[.tmp 44, .tmp 46]) rfl ?_); at_builtin; refine Kd.S_append k58 (w0 := w) w.heap.size rfl (.tmp 44) (.tmp 46) 39 58 (.agg #[(.int .i64 0), (.slice none 0 0)]) 32 rfl Try.underlying39 info58 rfl (by decide) (by omega) (.slice Ao20 x6_1.length co20) x6_1 (⟨t231, t232⟩ : S58) [.int .i64 t231, .slice Ao28 t232.length co28] (fun k_ => k_ ≠ gb237) (fun k_ => some k_ = (.slice Ao28 t232.length co28 : Value).ownBlock) rfl rfl ?aP (fun k_ hk_ => ((Kd.R_mono (ok' := fun k_ => ((fun k_ => k_ ≠ gb237)) k_ ∧ some k_ ≠ (.slice Ao20 x6_1.length co20 : Value).ownBlock) (Kd.R_types (Kd.R_apart' (HO234.out) (Kd.S_typed HO_6.out) (by decide)) BK237.out (by decide)) (fun k_ hk => ⟨hk.2, hk.1.2⟩))).1 k_ hk_.symm) ?aF ?aO ?aB ?aS ?aL ?_; (case aP => exact k58_mkM _ _ _ (⟨t231, t232⟩ : S58) (Kd.R_mono (Kd.R_tight rfl (Kd.R_mono (ok' := fun k_ => ((fun k_ => k_ ≠ gb237)) k_ ∧ some k_ ≠ (.slice Ao20 x6_1.length co20 : Value).ownBlock) (Kd.R_types (Kd.R_apart' (HO234.out) (Kd.S_typed HO_6.out) (by decide)) BK237.out (by decide)) (fun k_ hk => ⟨hk.2, hk.1.2⟩))) (fun _ h_ => h_))); (case aB => exact (zB HB)); (case aF => exact (fun k_ hk => Kd.freshB (g := gb237) (o := .cells #[.int .i64 t231, .slice Ao28 t232.length co28] 58 (0, 0)) (zK BK237) k_ hk)); (case aO => exact (by (with_reducible repeat (first | apply Kd.S_alloc | apply Kd.S_drewN | apply Kd.S_drew)); exact Kd.S_mono HO_6.out (fun k_ hk => ⟨hk.2, fun e_ => hk.1 e_⟩))); (case aS => exact (below_size (zB HB))); (case aL => have := LMc17.out; omega); intro v239 w33 ho hb hg hat; rw [← Ny238.out] at ho; replace BK228 := Aside0.mk (blk_grown (g := gb228) (o := .cells #[.int .i64 ((rd_T47 l0 x19_1).f0), .int .i64 ((rd_T47 l0 x19_1).f1), .int .i64 ((rd_T47 l0 x19_1).f2), .int .i64 ((rd_T47 l0 x19_1).f3)] 47 (0, 0)) (zK BK228) hg (Kd.S_ne HO_6.out BK228.out (by decide))); replace BK237 := Aside0.mk (blk_grown (g := gb237) (o := .cells #[.int .i64 t231, .slice Ao28 t232.length co28] 58 (0, 0)) (zK BK237) hg (Kd.S_away HO_6.out (fun _ hk => hk.2))); replace HB := Aside0.mk (hb); have HO240 := Aside0.mk (ho); clear HO_6 HO234; clear ho hb hg hat))
       go_roundg k1
       case measure => have := HK1.out; omega
       case rel => exact ⟨(y238), (wrap64 (x7_1 + t235)), (wrap64 (x19_1 + 1)), zF, zF, H', ⟨by have := HK1.out; omega⟩, ⟨by (with_reducible repeat (first | apply Kd.S_alloc | apply Kd.S_drewN | apply Kd.S_drew)); exact Kd.S_mono HO240.out (fun _ hk => trivial)⟩, ⟨zB HB⟩⟩
      ·replace c16 := Bool.eq_false_iff.mpr c16
       subst c16
       have H1 : (some (([] : List (S58)), (-1))) = some (r1, r2) := by rw [if_neg (show ¬ (false = true) by decide)] at H; exact H
       clear H
       have H := H1
       clear H1
       simp only [Option.some.injEq, Prod.mk.injEq] at H
       obtain ⟨rfl, rfl⟩ := H
       have p227 : 0 ≤ (x19_1 : Int) := zD
       have q227 : x19_1 < (l0.length : Int) := zD
       obtain ⟨ad227, e227, hx227_0, hx227_1, hx227_2, hx227_3⟩ := at_T47 HR0.out x19_1 p227 q227
       cases e227
       replace hx227_0 := hL HB hx227_0
       replace hx227_1 := hL HB hx227_1
       replace hx227_2 := hL HB hx227_2
       replace hx227_3 := hL HB hx227_3
       replace p227 := eq_true p227
       replace q227 := eq_true q227
       try go_wp2_with (first | ((with_reducible refine gate_dst (N := 9) rfl ?_); refine box_event ?hg (N := 9) ?hd (cs := #[.int .i64 0, .int .i64 0, .int .i64 0, .int .i64 0]) (t := 47) ?hr ?_; (case hd => rfl); (case hg => rfl); (case hr => first | (go_simp; done) | (go_simp; rfl)); intro gb228 hg w34 hbox hb; replace HO_6 := Aside0.mk (Kd.S_below (zS HO_6) hb); have BK228 := Aside0.mk (hbox); have GW228 := gS HB hg; have GE228 := gS HB hg; replace HB := bS HB hb; clear hb hbox hg; have hcz35_0 := bc0 BK228; have hcz35_1 := bc1 BK228; have hcz35_2 := bc2 BK228; have hcz35_3 := bc3 BK228; have hfz35_0 := bf BK228 0; have hfz35_1 := bf BK228 1; have hfz35_2 := bf BK228 2; have hfz35_3 := bf BK228 3; obtain ⟨Ao36, co36, eo36⟩ := Kd.S_slice HO_6.out; subst eo36) | ((with_reducible refine gate_callee (f := 42) rfl ?_); refine goesL_ (some 27) rfl rfl Try.func42 (by kernel_rfl) rfl #[.slice (some ad227) l0.length c0, .slice Ao36 x6_1.length co36, .int .i64 x19_1] rfl zG ?_; (with_reducible refine (impl_IsThere.calls _ _ l0 _ _ x6_1 x19_1 true _ ?side1 ?side2 ?side3 ?side4 A11.out).mono ?_); (case side1 => exact Kd.C_below HR0.out (zB HB)); (case side2 => exact HC0.out); (case side3 => refine (Kd.S_reads' (e := 58) (base := w.heap.size) (ok := fun k_ => True) (n := x6_1.length) (c := co36) ?_).2.2; exact (by (with_reducible repeat (first | apply Kd.S_alloc | apply Kd.S_drewN | apply Kd.S_drew)); exact (Kd.S_mono (Kd.S_far (p := ⟨gb228, 3, none⟩) (Kd.S_far (p := ⟨gb228, 2, none⟩) (Kd.S_far (p := ⟨gb228, 1, none⟩) (Kd.S_far (p := ⟨gb228, 0, none⟩) (Kd.S_types HO_6.out BK228.out (by decide)) (fun _ hk => hk.2) (.int .i64 ((rd_T47 l0 x19_1).f0))) (fun _ hk => hk.2) (.int .i64 ((rd_T47 l0 x19_1).f1))) (fun _ hk => hk.2) (.int .i64 ((rd_T47 l0 x19_1).f2))) (fun _ hk => hk.2) (.int .i64 ((rd_T47 l0 x19_1).f3))) (fun _ h_ => h_.1)))); (case side4 => exact (Kd.S_reads' HO_6.out).2.1); rintro e w37 ⟨rfl, hb⟩; refine ⟨_, rfl, ?_⟩; replace HO_6 := Aside0.mk (Kd.S_below (by (with_reducible repeat (first | apply Kd.S_alloc | apply Kd.S_drewN | apply Kd.S_drew)); exact (Kd.S_mono (Kd.S_far (p := ⟨gb228, 3, none⟩) (Kd.S_far (p := ⟨gb228, 2, none⟩) (Kd.S_far (p := ⟨gb228, 1, none⟩) (Kd.S_far (p := ⟨gb228, 0, none⟩) (Kd.S_types HO_6.out BK228.out (by decide)) (fun _ hk => hk.2) (.int .i64 ((rd_T47 l0 x19_1).f0))) (fun _ hk => hk.2) (.int .i64 ((rd_T47 l0 x19_1).f1))) (fun _ hk => hk.2) (.int .i64 ((rd_T47 l0 x19_1).f2))) (fun _ hk => hk.2) (.int .i64 ((rd_T47 l0 x19_1).f3))) (fun _ h_ => h_.1))) hb); replace BK228 := Aside0.mk (blk_below (g := gb228) (o := .cells #[.int .i64 ((rd_T47 l0 x19_1).f0), .int .i64 ((rd_T47 l0 x19_1).f1), .int .i64 ((rd_T47 l0 x19_1).f2), .int .i64 ((rd_T47 l0 x19_1).f3)] 47 (0, 0)) (by (with_reducible repeat (first | refine blk_drewN ?_ _ | refine blk_drew ?_ | refine blk_alloc ?_ _)); refine blk_put (cs := #[.int .i64 ((rd_T47 l0 x19_1).f0), .int .i64 ((rd_T47 l0 x19_1).f1), .int .i64 ((rd_T47 l0 x19_1).f2), .int .i64 0]) ?_ 3 _ rfl; (with_reducible repeat (first | refine blk_drewN ?_ _ | refine blk_drew ?_ | refine blk_alloc ?_ _)); refine blk_put (cs := #[.int .i64 ((rd_T47 l0 x19_1).f0), .int .i64 ((rd_T47 l0 x19_1).f1), .int .i64 0, .int .i64 0]) ?_ 2 _ rfl; (with_reducible repeat (first | refine blk_drewN ?_ _ | refine blk_drew ?_ | refine blk_alloc ?_ _)); refine blk_put (cs := #[.int .i64 ((rd_T47 l0 x19_1).f0), .int .i64 0, .int .i64 0, .int .i64 0]) ?_ 1 _ rfl; (with_reducible repeat (first | refine blk_drewN ?_ _ | refine blk_drew ?_ | refine blk_alloc ?_ _)); refine blk_put (cs := #[.int .i64 0, .int .i64 0, .int .i64 0, .int .i64 0]) ?_ 0 _ rfl; (with_reducible repeat (first | refine blk_drewN ?_ _ | refine blk_drew ?_ | refine blk_alloc ?_ _)); exact BK228.out) hb); replace HB := bS HB hb; (try clear hb)))
       replace HO_6 := Aside0.mk (Kd.S_drew HO_6.out)
       replace BK228 := Aside0.mk (blk_drew BK228.out)
       replace HB := Aside0.mk (below_drew1 HB.out)
       obtain ⟨i039, hi039, _, hsz39, _⟩ := info_parts info3
       obtain ⟨A39, hcut39, hA39, hC39⟩ := print_drop_of (P := Try.prog) (Value.int .i64) 0 37 3 .i64 Try.underlying37 hi039 hsz39 A1 c1 l1 x7_1 (zD) (zD) HC1.out
       have HR230 := Aside0.mk (Kd.C_of_reads (h1 := fun _ => rfl) (hA39 _ (Kd.reads_of_C HR1.out)))
       have HC230 := Aside0.mk hC39
       clear hA39 hC39 hi039 hsz39
       refine start_ (n := 13) (S := fun w' => w'.cell? ⟨gb228, 0, none⟩ = some (.int .i64 ((rd_T47 l0 x19_1).f0)) ∧ w'.cell? ⟨gb228, 1, none⟩ = some (.int .i64 ((rd_T47 l0 x19_1).f1)) ∧ w'.cell? ⟨gb228, 2, none⟩ = some (.int .i64 ((rd_T47 l0 x19_1).f2)) ∧ w'.cell? ⟨gb228, 3, none⟩ = some (.int .i64 ((rd_T47 l0 x19_1).f3))) (ds := []) (bm 13 0) (by kernel_rfl) rfl (bm0 _) ⟨bc0 BK228, bc1 BK228, bc2 BK228, bc3 BK228⟩ (fun hHeld => ?_); refine with_tabW impl_ReadPrefix.tab9 impl_ReadPrefix.bits9 (fun HT_ HW_ => ?_)
       generalize w37.drew = w38 at HO_6 BK228 HB HR230 hHeld ⊢
       refine pU 1 (some 35) (bm 13 2) HT_ rfl rfl ?_
       refine pU 2 (some 36) (bm 13 6) HT_ rfl rfl ?_
       refine pU 3 (some 37) (bm 13 14) HT_ rfl rfl ?_
       refine tU 0 (some 34) (bm 13 15) HT_ HW_ rfl rfl hHeld ?_
       refine join_ (σ := Value × Nat) 3 (bm 13 1023) (fun s_ => [(38, .tuple #[.agg #[.int .i64 t231, s_.1], .int .i64 t235, .bool false]), (10, .pointer (some ⟨s_.2, 0, none⟩)), (33, .tuple #[.agg #[.int .i64 t231, s_.1], .int .i64 t235, .bool false]), (39, .agg #[.int .i64 t231, s_.1]), (40, .int .i64 t235), (41, .bool false)]) (fun s_ w' => (w'.cell? ⟨gb228, 0, none⟩ = some (.int .i64 ((rd_T47 l0 x19_1).f0)) ∧ w'.cell? ⟨gb228, 1, none⟩ = some (.int .i64 ((rd_T47 l0 x19_1).f1)) ∧ w'.cell? ⟨gb228, 2, none⟩ = some (.int .i64 ((rd_T47 l0 x19_1).f2)) ∧ w'.cell? ⟨gb228, 3, none⟩ = some (.int .i64 ((rd_T47 l0 x19_1).f3))) ∧ (Kd.R (Kd.int .i64) 3 w' w.heap.size (fun _ => True) s_.1 t232) ∧ (Kd.S k58 58 w' w.heap.size (fun k_ => some k_ ≠ (s_.1 : Value).ownBlock ∧ k_ ≠ s_.2) (.slice Ao36 x6_1.length co36) x6_1) ∧ (w'.heap[gb228]? = some (.cells #[.int .i64 ((rd_T47 l0 x19_1).f0), .int .i64 ((rd_T47 l0 x19_1).f1), .int .i64 ((rd_T47 l0 x19_1).f2), .int .i64 ((rd_T47 l0 x19_1).f3)] 47 (0, 0))) ∧ (w'.heap[s_.2]? = some (.cells #[.int .i64 0, .slice none 0 0] 58 (0, 0))) ∧ (w.heap.size ≤ s_.2) ∧ (w.heap.size ≤ s_.2) ∧ (gb228 ≠ s_.2) ∧ (s_.2 ≠ gb228) ∧ (Below w.heap.size w w')) ?_ ?_
       rotate_left
       ·intro hCont
        refine two_ (i := 4) (j := 9) (Ni := some 38) (Nj := some 10) (bm 13 31) (bm 13 527) rfl rfl rfl rfl (two_of HT_.out (by kernel_rfl)) (by decide) (by decide) (fun K hK => ?_) (fun K hK => ?_)
        ·skip
         refine goes_ Try.func48 (by kernel_rfl) rfl #[.agg #[.int .i64 ((rd_T47 l0 x19_1).f0), .int .i64 ((rd_T47 l0 x19_1).f1), .int .i64 ((rd_T47 l0 x19_1).f2), .int .i64 ((rd_T47 l0 x19_1).f3)], .slice A39 (l1.drop (x7_1 : Int).toNat).length (c1 - x7_1.toNat)] (by rfl) rfl rfl (by (try simp only [List.map_toArray, List.map_cons, List.map_nil]); first | done | (rw [show (l1.drop (x7_1 : Int).toNat).length = (l1.length - x7_1.toNat) from List.length_drop] <;> rfl) | rfl | (simp only [List.length_drop, List.length_take]; rfl)) ?_
         with_reducible refine (impl_readField.calls ((rd_T47 l0 x19_1).f0) ((rd_T47 l0 x19_1).f1) ((rd_T47 l0 x19_1).f2) ((rd_T47 l0 x19_1).f3) _ _ (l1.drop (x7_1 : Int).toNat) t231 t232 t235 false _ ?side1 ?side2 A15.out).mono ?_
         (case side1 => exact cS HR230 HB)
         (case side2 => exact HC230.out)
         rintro e w40 ⟨v233, rfl, ho0, hb⟩
         refine ⟨_, rfl, ?_⟩
         replace HO_6 := Aside0.mk (Kd.S_elder' (zS HO_6) (Kd.R_base ho0) hb)
         have HO234 := Aside0.mk (Kd.R_lower ho0 (below_size (zB HB)))
         replace BK228 := kB BK228 hb
         replace HB := bS HB hb
         (try clear hb)
         (try clear hb2)
         (try clear hk)
         (try clear hi)
         (try clear ho0)
         refine hK.out _ _ ⟨bc0 BK228, bc1 BK228, bc2 BK228, bc3 BK228⟩ (fun hHeld => ?_)
         clear hK K
         refine norm_ (a' := ?_) ?_ ?_
         rotate_left
         ·show Act.put _ (some 38) _ = _
          simp only [Act.put, List.setIfInBounds_toArray, List.set_cons_zero, List.set_cons_succ, i64_w, i32_w]
          rfl
         refine pU 5 (some 33) (bm 13 63) HT_ rfl rfl ?_
         refine pU 6 (some 39) (bm 13 127) HT_ rfl rfl ?_
         refine pU 7 (some 40) (bm 13 255) HT_ rfl rfl ?_
         refine pU 8 (some 41) (bm 13 511) HT_ rfl rfl ?_
         refine one_ (i := 9) (N := some 10) (bm 13 1023) rfl rfl (one_of HT_.out (by kernel_rfl)) (by decide) (fun K hK => ?_)
         refine box_step ?hg (N := 10) ?hd (cs := #[.int .i64 0, .slice none 0 0]) (t := 58) ?hr ?_; (case hd => rfl); (case hg => rfl); (case hr => first | (go_simp; done) | (go_simp; rfl))
         intro gb237 hg w41 hbox hb
         replace HO_6 := Aside0.mk (Kd.S_below (Kd.S_elderB (zS HO_6) gb237 (Nat.le_of_eq hg.symm)) hb)
         replace HO234 := Aside0.mk (Kd.R_below (zR HO234) hb)
         have BK237 := Aside0.mk (hbox)
         have GW237 := gS HB hg
         have GE237 := gS HB hg
         replace HB := bS HB hb
         have NB228_237 := nL BK228 hg
         have NB237_228 := nR BK228 hg
         replace BK228 := kB BK228 hb
         clear hb hbox hg
         refine hK.out _ _ ⟨bc0 BK228, bc1 BK228, bc2 BK228, bc3 BK228⟩ (fun hHeld => ?_)
         clear hK K
         refine norm_ (a' := ?_) ?_ ?_
         rotate_left
         ·show Act.put _ (some 10) _ = _
          simp only [Act.put, List.setIfInBounds_toArray, List.set_cons_zero, List.set_cons_succ, i64_w, i32_w]
          rfl
         exact norm_ (by simp only [putAll, Act.put, List.setIfInBounds_toArray, List.set_cons_zero, List.set_cons_succ]) (hCont (v233, gb237) _ ⟨hHeld, (zR HO234), (by (with_reducible repeat (first | apply Kd.S_alloc | apply Kd.S_drewN | apply Kd.S_drew)); exact Kd.S_mono HO_6.out (fun _ hk => ⟨hk.1.2, hk.2⟩)), (zK BK228), (zK BK237), GW237.out, GE237.out, NB228_237.out, NB237_228.out, (zB HB)⟩)
        ·skip
         refine box_step ?hg (N := 10) ?hd (cs := #[.int .i64 0, .slice none 0 0]) (t := 58) ?hr ?_; (case hd => rfl); (case hg => rfl); (case hr => first | (go_simp; done) | (go_simp; rfl))
         intro gb237 hg w40 hbox hb
         replace HO_6 := Aside0.mk (Kd.S_below (Kd.S_elderB (zS HO_6) gb237 (Nat.le_of_eq hg.symm)) hb)
         have BK237 := Aside0.mk (hbox)
         have GW237 := gS HB hg
         have GE237 := gS HB hg
         replace HB := bS HB hb
         have NB228_237 := nL BK228 hg
         have NB237_228 := nR BK228 hg
         replace BK228 := kB BK228 hb
         clear hb hbox hg
         refine hK.out _ _ ⟨bc0 BK228, bc1 BK228, bc2 BK228, bc3 BK228⟩ (fun hHeld => ?_)
         clear hK K
         refine norm_ (a' := ?_) ?_ ?_
         rotate_left
         ·show Act.put _ (some 10) _ = _
          simp only [Act.put, List.setIfInBounds_toArray, List.set_cons_zero, List.set_cons_succ, i64_w, i32_w]
          rfl
         refine one_ (i := 4) (N := some 38) (bm 13 543) rfl rfl (one_of HT_.out (by kernel_rfl)) (by decide) (fun K hK => ?_)
         refine goes_ Try.func48 (by kernel_rfl) rfl #[.agg #[.int .i64 ((rd_T47 l0 x19_1).f0), .int .i64 ((rd_T47 l0 x19_1).f1), .int .i64 ((rd_T47 l0 x19_1).f2), .int .i64 ((rd_T47 l0 x19_1).f3)], .slice A39 (l1.drop (x7_1 : Int).toNat).length (c1 - x7_1.toNat)] (by rfl) rfl rfl (by (try simp only [List.map_toArray, List.map_cons, List.map_nil]); first | done | (rw [show (l1.drop (x7_1 : Int).toNat).length = (l1.length - x7_1.toNat) from List.length_drop] <;> rfl) | rfl | (simp only [List.length_drop, List.length_take]; rfl)) ?_
         with_reducible refine (impl_readField.calls ((rd_T47 l0 x19_1).f0) ((rd_T47 l0 x19_1).f1) ((rd_T47 l0 x19_1).f2) ((rd_T47 l0 x19_1).f3) _ _ (l1.drop (x7_1 : Int).toNat) t231 t232 t235 false _ ?side1 ?side2 A15.out).mono ?_
         (case side1 => exact cS HR230 HB)
         (case side2 => exact HC230.out)
         rintro e w41 ⟨v233, rfl, ho0, hb⟩
         refine ⟨_, rfl, ?_⟩
         replace HO_6 := Aside0.mk (Kd.S_elder' (zS HO_6) (Kd.R_base ho0) hb)
         have HO234 := Aside0.mk (Kd.R_lower ho0 (below_size (zB HB)))
         replace BK228 := kB BK228 hb
         replace BK237 := kB BK237 hb
         replace HB := bS HB hb
         (try clear hb)
         (try clear hb2)
         (try clear hk)
         (try clear hi)
         (try clear ho0)
         refine hK.out _ _ ⟨bc0 BK228, bc1 BK228, bc2 BK228, bc3 BK228⟩ (fun hHeld => ?_)
         clear hK K
         refine norm_ (a' := ?_) ?_ ?_
         rotate_left
         ·show Act.put _ (some 38) _ = _
          simp only [Act.put, List.setIfInBounds_toArray, List.set_cons_zero, List.set_cons_succ, i64_w, i32_w]
          rfl
         refine pU 5 (some 33) (bm 13 575) HT_ rfl rfl ?_
         refine pU 6 (some 39) (bm 13 639) HT_ rfl rfl ?_
         refine pU 7 (some 40) (bm 13 767) HT_ rfl rfl ?_
         refine pU 8 (some 41) (bm 13 1023) HT_ rfl rfl ?_
         exact norm_ (by simp only [putAll, Act.put, List.setIfInBounds_toArray, List.set_cons_zero, List.set_cons_succ]) (hCont (v233, gb237) _ ⟨hHeld, (zR HO234), (by (with_reducible repeat (first | apply Kd.S_alloc | apply Kd.S_drewN | apply Kd.S_drew)); exact Kd.S_mono HO_6.out (fun _ hk => ⟨hk.2, hk.1.2⟩)), (zK BK228), (zK BK237), GW237.out, GE237.out, NB228_237.out, NB237_228.out, (zB HB)⟩)
       rintro ⟨v233, gb237⟩ w42 ⟨hS_, h0_, h1_, h2_, h3_, h4_, h5_, h6_, h7_, h8_⟩
       have HO234 : Aside0 (Kd.R (Kd.int .i64) 3 w42 w.heap.size (fun _ => True) v233 t232) := ⟨h0_⟩
       replace HO_6 : Aside0 (Kd.S k58 58 w42 w.heap.size (fun k_ => some k_ ≠ (v233 : Value).ownBlock ∧ k_ ≠ gb237) (.slice Ao36 x6_1.length co36) x6_1) := ⟨h1_⟩
       replace BK228 : Aside0 (w42.heap[gb228]? = some (.cells #[.int .i64 ((rd_T47 l0 x19_1).f0), .int .i64 ((rd_T47 l0 x19_1).f1), .int .i64 ((rd_T47 l0 x19_1).f2), .int .i64 ((rd_T47 l0 x19_1).f3)] 47 (0, 0))) := ⟨h2_⟩
       have BK237 : Aside0 (w42.heap[gb237]? = some (.cells #[.int .i64 0, .slice none 0 0] 58 (0, 0))) := ⟨h3_⟩
       have GW237 : Aside0 (w.heap.size ≤ gb237) := ⟨h4_⟩
       have GE237 : Aside0 (w.heap.size ≤ gb237) := ⟨h5_⟩
       have NB228_237 : Aside0 (gb228 ≠ gb237) := ⟨h6_⟩
       have NB237_228 : Aside0 (gb237 ≠ gb228) := ⟨h7_⟩
       replace HB : Aside0 (Below w.heap.size w w42) := ⟨h8_⟩
       clear h0_ h1_ h2_ h3_ h4_ h5_ h6_ h7_ h8_
       have hHeld : w42.cell? ⟨gb228, 0, none⟩ = some (.int .i64 ((rd_T47 l0 x19_1).f0)) ∧ w42.cell? ⟨gb228, 1, none⟩ = some (.int .i64 ((rd_T47 l0 x19_1).f1)) ∧ w42.cell? ⟨gb228, 2, none⟩ = some (.int .i64 ((rd_T47 l0 x19_1).f2)) ∧ w42.cell? ⟨gb228, 3, none⟩ = some (.int .i64 ((rd_T47 l0 x19_1).f3)) := hS_
       obtain ⟨Ao44, co44, eo44⟩ := Kd.R_slice HO234.out
       (first | subst eo44 | (injection eo44 with f1_ f2_ f3_; have f4_ := f1_.symm; have f5_ := f3_.symm; clear f1_ f2_ f3_; subst f4_; subst f5_))
       refine norm_ (a' := ?_) ?_ ?_
       rotate_left
       ·simp only [putAll, Act.put, List.setIfInBounds_toArray, List.set_cons_zero, List.set_cons_succ]
        rfl
       refine one_ (i := 10) (N := none) (bm 13 2047) rfl rfl (one_of HT_.out (by kernel_rfl)) (by decide) (fun K hK => ?_)
       have hs43 : w42.cell? ⟨gb237, 0, none⟩ = some (.int .i64 0) := bc0 BK237
       have hfs43 := bf BK237 0
       have hns43_0 := NB228_237.out
       have hms43_0 := NB237_228.out
       have hs45 : w42.cell? ⟨gb237, 1, none⟩ = some (.slice none 0 0) := bc1 BK237
       have hfs45 := bf BK237 1
       have hns45_0 := NB228_237.out
       have hms45_0 := NB237_228.out
       refine skip_ (w1 := ?_) (by rfl) rfl ?_ ?_
       rotate_left
       ·go_simp
        rfl
       refine hK.out _ _ ⟨((cell_far (p := ⟨gb237, _, none⟩) NB228_237.out _).trans (((cell_far (p := ⟨gb237, _, none⟩) NB228_237.out _).trans (hHeld.1)))), ((cell_far (p := ⟨gb237, _, none⟩) NB228_237.out _).trans (((cell_far (p := ⟨gb237, _, none⟩) NB228_237.out _).trans (hHeld.2.1)))), ((cell_far (p := ⟨gb237, _, none⟩) NB228_237.out _).trans (((cell_far (p := ⟨gb237, _, none⟩) NB228_237.out _).trans (hHeld.2.2.1)))), ((cell_far (p := ⟨gb237, _, none⟩) NB228_237.out _).trans (((cell_far (p := ⟨gb237, _, none⟩) NB228_237.out _).trans (hHeld.2.2.2))))⟩ (fun hHeld => ?_)
       clear hK K
       refine pU 11 (some 11) (bm 13 4095) HT_ rfl rfl ?_
       refine pU 12 (some 12) (bm 13 8191) HT_ rfl rfl ?_
       refine done_ (done_of HT_.out (by kernel_rfl)) ?_
       try clear hHeld
       try go_wp2
       go_ret2
       exact ⟨_, zE, by first | exact Kd.S_nil _ _ _ _ _ | exact Kd.N_nil _ _ _ _ _ | exact Kd.V_nil _ _ _ _ _ | exact Kd.Q_nil _ _ _ _ _ | exact Kd.R_nil _ _ _ _ _, zB HB⟩
     ·replace c12 := Bool.eq_false_iff.mpr c12
      subst c12
      have H1 : (if x6_1.length < 4398046511104 then (impl_ReadPrefix.l0 k1 l0 l1 (x6_1 ++ [(⟨0, ([] : List Int)⟩ : S58)]) x7_1 l0 (l0.length : Int) (wrap64 (x19_1 + 1))) else (none)) = some (r1, r2) := by rw [if_neg (show ¬ (false = true) by decide)] at H; exact H
      clear H
      have H := H1
      clear H1
      obtain ⟨c46, H⟩ := ifS H
      have LMc46 := Aside0.mk c46
      clear c46
      obtain ⟨y241, hy241⟩ : ∃ y_ : List (S58), y_ = (x6_1 ++ [(⟨0, ([] : List Int)⟩ : S58)]) := ⟨_, rfl⟩
      replace H : (impl_ReadPrefix.l0 k1 l0 l1 y241 x7_1 l0 (l0.length : Int) (wrap64 (x19_1 + 1))) = some (r1, r2) := by first | (rw [hy241]; with_reducible exact H) | (have H2_ := (Option.bind_some _ _).symm.trans H; rw [hy241]; with_reducible exact H2_) | (have H2_ := (Option.bind_some _ _).symm.trans H; with_reducible exact H2_) | with_reducible exact H | (rw [hy241]; exact H) | exact H
      have Ny241 := Aside0.mk hy241
      clear hy241
      have H' := Aside0.mk H
      clear H
      have p227 : 0 ≤ (x19_1 : Int) := zD
      have q227 : x19_1 < (l0.length : Int) := zD
      obtain ⟨ad227, e227, hx227_0, hx227_1, hx227_2, hx227_3⟩ := at_T47 HR0.out x19_1 p227 q227
      cases e227
      replace hx227_0 := hL HB hx227_0
      replace hx227_1 := hL HB hx227_1
      replace hx227_2 := hL HB hx227_2
      replace hx227_3 := hL HB hx227_3
      replace p227 := eq_true p227
      replace q227 := eq_true q227
      go_wp2_with (first | ((with_reducible refine gate_dst (N := 9) rfl ?_); refine box_event ?hg (N := 9) ?hd (cs := #[.int .i64 0, .int .i64 0, .int .i64 0, .int .i64 0]) (t := 47) ?hr ?_; (case hd => rfl); (case hg => rfl); (case hr => first | (go_simp; done) | (go_simp; rfl)); intro gb228 hg w47 hbox hb; replace HO_6 := Aside0.mk (Kd.S_below (zS HO_6) hb); have BK228 := Aside0.mk (hbox); have GW228 := gS HB hg; have GE228 := gS HB hg; replace HB := bS HB hb; clear hb hbox hg; have hcz48_0 := bc0 BK228; have hcz48_1 := bc1 BK228; have hcz48_2 := bc2 BK228; have hcz48_3 := bc3 BK228; have hfz48_0 := bf BK228 0; have hfz48_1 := bf BK228 1; have hfz48_2 := bf BK228 2; have hfz48_3 := bf BK228 3; obtain ⟨Ao49, co49, eo49⟩ := Kd.S_slice HO_6.out; subst eo49) | ((with_reducible refine gate_callee (f := 42) rfl ?_); refine goesL_ (some 27) rfl rfl Try.func42 (by kernel_rfl) rfl #[.slice (some ad227) l0.length c0, .slice Ao49 x6_1.length co49, .int .i64 x19_1] rfl zG ?_; (with_reducible refine (impl_IsThere.calls _ _ l0 _ _ x6_1 x19_1 false _ ?side1 ?side2 ?side3 ?side4 A11.out).mono ?_); (case side1 => exact Kd.C_below HR0.out (zB HB)); (case side2 => exact HC0.out); (case side3 => refine (Kd.S_reads' (e := 58) (base := w.heap.size) (ok := fun k_ => True) (n := x6_1.length) (c := co49) ?_).2.2; exact (by (with_reducible repeat (first | apply Kd.S_alloc | apply Kd.S_drewN | apply Kd.S_drew)); exact (Kd.S_mono (Kd.S_far (p := ⟨gb228, 3, none⟩) (Kd.S_far (p := ⟨gb228, 2, none⟩) (Kd.S_far (p := ⟨gb228, 1, none⟩) (Kd.S_far (p := ⟨gb228, 0, none⟩) (Kd.S_types HO_6.out BK228.out (by decide)) (fun _ hk => hk.2) (.int .i64 ((rd_T47 l0 x19_1).f0))) (fun _ hk => hk.2) (.int .i64 ((rd_T47 l0 x19_1).f1))) (fun _ hk => hk.2) (.int .i64 ((rd_T47 l0 x19_1).f2))) (fun _ hk => hk.2) (.int .i64 ((rd_T47 l0 x19_1).f3))) (fun _ h_ => h_.1)))); (case side4 => exact (Kd.S_reads' HO_6.out).2.1); rintro e w50 ⟨rfl, hb⟩; refine ⟨_, rfl, ?_⟩; replace HO_6 := Aside0.mk (Kd.S_below (by (with_reducible repeat (first | apply Kd.S_alloc | apply Kd.S_drewN | apply Kd.S_drew)); exact (Kd.S_mono (Kd.S_far (p := ⟨gb228, 3, none⟩) (Kd.S_far (p := ⟨gb228, 2, none⟩) (Kd.S_far (p := ⟨gb228, 1, none⟩) (Kd.S_far (p := ⟨gb228, 0, none⟩) (Kd.S_types HO_6.out BK228.out (by decide)) (fun _ hk => hk.2) (.int .i64 ((rd_T47 l0 x19_1).f0))) (fun _ hk => hk.2) (.int .i64 ((rd_T47 l0 x19_1).f1))) (fun _ hk => hk.2) (.int .i64 ((rd_T47 l0 x19_1).f2))) (fun _ hk => hk.2) (.int .i64 ((rd_T47 l0 x19_1).f3))) (fun _ h_ => h_.1))) hb); replace BK228 := Aside0.mk (blk_below (g := gb228) (o := .cells #[.int .i64 ((rd_T47 l0 x19_1).f0), .int .i64 ((rd_T47 l0 x19_1).f1), .int .i64 ((rd_T47 l0 x19_1).f2), .int .i64 ((rd_T47 l0 x19_1).f3)] 47 (0, 0)) (by (with_reducible repeat (first | refine blk_drewN ?_ _ | refine blk_drew ?_ | refine blk_alloc ?_ _)); refine blk_put (cs := #[.int .i64 ((rd_T47 l0 x19_1).f0), .int .i64 ((rd_T47 l0 x19_1).f1), .int .i64 ((rd_T47 l0 x19_1).f2), .int .i64 0]) ?_ 3 _ rfl; (with_reducible repeat (first | refine blk_drewN ?_ _ | refine blk_drew ?_ | refine blk_alloc ?_ _)); refine blk_put (cs := #[.int .i64 ((rd_T47 l0 x19_1).f0), .int .i64 ((rd_T47 l0 x19_1).f1), .int .i64 0, .int .i64 0]) ?_ 2 _ rfl; (with_reducible repeat (first | refine blk_drewN ?_ _ | refine blk_drew ?_ | refine blk_alloc ?_ _)); refine blk_put (cs := #[.int .i64 ((rd_T47 l0 x19_1).f0), .int .i64 0, .int .i64 0, .int .i64 0]) ?_ 1 _ rfl; (with_reducible repeat (first | refine blk_drewN ?_ _ | refine blk_drew ?_ | refine blk_alloc ?_ _)); refine blk_put (cs := #[.int .i64 0, .int .i64 0, .int .i64 0, .int .i64 0]) ?_ 0 _ rfl; (with_reducible repeat (first | refine blk_drewN ?_ _ | refine blk_drew ?_ | refine blk_alloc ?_ _)); exact BK228.out) hb); replace HB := bS HB hb; (try clear hb)) | ((with_reducible refine gate_builtin (b := .append) (xs := #[.tmp 29, .tmp 31]) rfl ?_); at_builtin; refine Kd.S_append k58 (w0 := w) w.heap.size rfl (.tmp 29) (.tmp 31) 39 58 (.agg #[(.int .i64 0), (.slice none 0 0)]) 32 rfl Try.underlying39 info58 rfl (by decide) (by omega) (.slice Ao49 x6_1.length co49) x6_1 (⟨0, ([] : List Int)⟩ : S58) [.int .i64 0, .slice none 0 0] (fun _ => True) (fun _ => False) rfl rfl ?aP (fun k_ hk_ => hk_.elim) ?aF ?aO ?aB ?aS ?aL ?_; (case aP => exact k58_mkM _ _ _ (⟨0, ([] : List Int)⟩ : S58) (Kd.R_nil _ _ _ _ _)); (case aB => exact (zB HB)); (case aF => exact (fun _ _ => trivial)); (case aO => exact (by (with_reducible repeat (first | apply Kd.S_alloc | apply Kd.S_drewN | apply Kd.S_drew)); exact Kd.S_mono HO_6.out (fun k_ hk => ⟨trivial, fun e_ => e_⟩))); (case aS => exact (below_size (zB HB))); (case aL => have := LMc46.out; omega); intro v242 w51 ho hb hg hat; rw [← Ny241.out] at ho; replace BK228 := Aside0.mk (blk_grown (g := gb228) (o := .cells #[.int .i64 ((rd_T47 l0 x19_1).f0), .int .i64 ((rd_T47 l0 x19_1).f1), .int .i64 ((rd_T47 l0 x19_1).f2), .int .i64 ((rd_T47 l0 x19_1).f3)] 47 (0, 0)) (zK BK228) hg (Kd.S_ne HO_6.out BK228.out (by decide))); replace HB := Aside0.mk (hb); have HO243 := Aside0.mk (ho); clear HO_6; clear ho hb hg hat))
      go_roundg k1
      case measure => have := HK1.out; omega
      case rel => exact ⟨(y241), (x7_1), (wrap64 (x19_1 + 1)), zF, zF, H', ⟨by have := HK1.out; omega⟩, ⟨zS HO243⟩, ⟨zB HB⟩⟩
    ·rw [if_neg c8] at H
     have c8b0 : decide (x19_1 < (l0.length : Int)) = false := decide_eq_false c8
     clear c8
     simp only [Option.some.injEq, Prod.mk.injEq] at H
     obtain ⟨rfl, rfl⟩ := H
     go_wp2
     go_ret2
     exact ⟨_, zE, by (with_reducible repeat (first | apply Kd.S_alloc | apply Kd.S_drewN | apply Kd.S_drew)); exact HO_6.out, zB HB⟩
 ·replace c4 := Bool.eq_false_iff.mpr c4
  subst c4
  have H1 : (some (([] : List (S58)), (-1))) = some (r1, r2) := by rw [if_neg (show ¬ (false = true) by decide)] at H; exact H
  clear H
  have H := H1
  clear H1
  simp only [Option.some.injEq, Prod.mk.injEq] at H
  obtain ⟨rfl, rfl⟩ := H
  go_enter Try.func29, Try.ntmps29
  go_wp2_with (first | ((with_reducible refine gate_dst (N := 13) rfl ?_); refine Kd.S_lit k58 _ 58 ?hg (N := 13) ?hd (xs := ([] : List (S58))) (inner := []) (ok := fun _ => True) (okp := fun _ => True) ?hr ?hp (fun _ hk => hk) trivial (Below.refl _ _) (Nat.le_refl _) (by simp) ?_; (case hd => rfl); (case hg => rfl); (case hr => first | (go_simp; done) | (go_simp; rfl)); (case hp => exact (Reps.none _ _)); intro v224 w52 ho53 hb hg_ hnew_; clear hg_ hnew_; (first | rw [← Ny223.out] at ho53 | (simp only [Int.reduceToNat] at ho53; rw [← Ny223.out] at ho53)); have HO225 := Aside0.mk (Kd.S_lower ho53 (below_size (zB HB))); replace HB := bS HB hb; clear hb ho53) | ((with_reducible refine gate_callee (f := 17) rfl ?_); refine goesL_ (some 15) rfl rfl Try.func17 (by kernel_rfl) rfl #[.slice A0 l0.length c0] rfl zG ?_; (with_reducible refine (impl_IsFormat.calls k _ _ l0 false _ ?side1 ?side2 A3.out).mono ?_); (case side1 => exact cS HR0 HB); (case side2 => exact HC0.out); rintro e w54 ⟨rfl, hb⟩; refine ⟨_, rfl, ?_⟩; replace HO225 := Aside0.mk (Kd.S_below (zS HO225) hb); replace HB := bS HB hb; (try clear hb)))
  go_ret2
  exact ⟨_, zE, by first | exact Kd.S_nil _ _ _ _ _ | exact Kd.N_nil _ _ _ _ _ | exact Kd.V_nil _ _ _ _ _ | exact Kd.Q_nil _ _ _ _ _ | exact Kd.R_nil _ _ _ _ _, zB HB⟩

/-! ### impl_SkipsTail: function 9 -/
def impl_SkipsTail.f (k : Nat) (l0 : List (S47)) (l1 : List (S47)) (a2 : Int) : Option (Bool) := (impl_MakeBytes.f k l1 a2).bind fun t244 => ((impl_ReadPrefix.f k l0 t244).bind fun bt247 => ((impl_MakeMessage.f k l1 a2).bind fun t251 => (if bt247.2 ≥ 0 then (if (t251.length : Int) ≥ (l0.length : Int) then (if 0 ≤ (l0.length : Int) then (if (l0.length : Int) ≤ (t251.length : Int) then ((impl_EqualMessages.f k bt247.1 (t251.take ((l0.length : Int) : Int).toNat)).bind fun t258 => (some t258)) else (none)) else (none)) else (some false)) else (some false))))
theorem impl_SkipsTail.mono : ∀ a0 a1 a2 k, LeO (impl_SkipsTail.f k a0 a1 a2) (impl_SkipsTail.f (k + 1) a0 a1 a2) := by
 intro a0 a1 a2 k
 unfold impl_SkipsTail.f
 repeat' first
   | (with_reducible exact impl_EqualMessages.mono _ _ _)
   | (with_reducible exact impl_MakeBytes.mono _ _ _)
   | (with_reducible exact impl_MakeMessage.mono _ _ _)
   | (with_reducible exact impl_ReadPrefix.mono _ _ _)
   | (with_reducible exact LeO.refl _)
   | (with_reducible exact LeO.none _)
   | (with_reducible refine LeO.ite ?_ ?_)
   | (with_reducible refine LeO.bind ?_ (fun _ => ?_))
   | exact impl_EqualMessages.mono _ _ _
   | exact impl_MakeBytes.mono _ _ _
   | exact impl_MakeMessage.mono _ _ _
   | exact impl_ReadPrefix.mono _ _ _
   | exact LeO.none _
   | refine LeO.ite ?_ ?_
   | refine LeO.bind ?_ (fun _ => ?_)
set_option maxHeartbeats 8000000 in
set_option maxRecDepth 100000 in
theorem impl_SkipsTail.calls (k : Nat) (A0 : Option Addr) (c0 : Nat) (l0 : List (S47)) (A1 : Option Addr) (c1 : Nat) (l1 : List (S47)) (a2 : Int) (r : Bool) (w : World) (hr0 : Kd.C k47 w A0 l0.length l0) (hc0 : l0.length ≤ c0) (hr1 : Kd.C k47 w A1 l1.length l1) (hc1 : l1.length ≤ c1) (h : impl_SkipsTail.f k l0 l1 a2 = some r) :
  Calls Try.prog 9 #[.slice A0 l0.length c0, .slice A1 l1.length c1, .int .i64 a2] w fun e w' => e = .returned (.bool r) ∧ Below w.heap.size w w' := by
 have HR0 := Aside0.mk hr0
 have HC0 := Aside0.mk hc0
 clear hr0 hc0
 have HR1 := Aside0.mk hr1
 have HC1 := Aside0.mk hc1
 clear hr1 hc1
 have HB := Aside0.mk (Below.refl w.heap.size w)
 have H : ((impl_MakeBytes.f k l1 a2).bind fun t244 => ((impl_ReadPrefix.f k l0 t244).bind fun bt247 => ((impl_MakeMessage.f k l1 a2).bind fun t251 => (if bt247.2 ≥ 0 then (if (t251.length : Int) ≥ (l0.length : Int) then (if 0 ≤ (l0.length : Int) then (if (l0.length : Int) ≤ (t251.length : Int) then ((impl_EqualMessages.f k bt247.1 (t251.take ((l0.length : Int) : Int).toNat)).bind fun t258 => (some t258)) else (none)) else (none)) else (some false)) else (some false))))) = some r := h
 clear h
 obtain ⟨t244, A4, H⟩ := bindS H
 replace H := Option.bind_eq_some_iff.mp H
 obtain ⟨⟨t247, t248⟩, A50, H⟩ := H
 replace H : ((impl_MakeMessage.f k l1 a2).bind fun t251 => (if t248 ≥ 0 then (if (t251.length : Int) ≥ (l0.length : Int) then (if 0 ≤ (l0.length : Int) then (if (l0.length : Int) ≤ (t251.length : Int) then ((impl_EqualMessages.f k t247 (t251.take ((l0.length : Int) : Int).toNat)).bind fun t258 => (some t258)) else (none)) else (none)) else (some false)) else (some false))) = some r := H
 have A5 := Aside0.mk A50
 clear A50
 obtain ⟨t251, A6, H⟩ := bindS H
 by_cases c7 : t248 ≥ 0
 ·rw [if_pos c7] at H
  have c7b0 : decide (0 ≤ t248) = true := decide_eq_true c7
  clear c7
  by_cases c8 : (t251.length : Int) ≥ (l0.length : Int)
  ·rw [if_pos c8] at H
   have c8b0 : decide ((l0.length : Int) ≤ (t251.length : Int)) = true := decide_eq_true c8
   have c8b1 : decide (l0.length ≤ t251.length) = true := decide_eq_true (Int.ofNat_le.mp c8)
   clear c8
   obtain ⟨c9, H⟩ := ifS H
   have c9b0 := eq_true c9
   have c9b1 : decide (0 ≤ (l0.length : Int)) = true := decide_eq_true c9
   clear c9
   obtain ⟨c10, H⟩ := ifS H
   have c10b0 := eq_true c10
   have c10b1 : decide ((l0.length : Int) ≤ (t251.length : Int)) = true := decide_eq_true c10
   clear c10
   obtain ⟨y254, hy254⟩ : ∃ y_ : List (S58), y_ = (t251.take ((l0.length : Int) : Int).toNat) := ⟨_, rfl⟩
   replace H : ((impl_EqualMessages.f k t247 y254).bind fun t258 => (some t258)) = some r := by first | (rw [hy254]; with_reducible exact H) | (have H2_ := (Option.bind_some _ _).symm.trans H; rw [hy254]; with_reducible exact H2_) | (have H2_ := (Option.bind_some _ _).symm.trans H; with_reducible exact H2_) | with_reducible exact H | (rw [hy254]; exact H) | exact H
   have Ny254 := Aside0.mk hy254
   clear hy254
   obtain ⟨t258, A11, H⟩ := bindS H
   obtain rfl := Option.some.inj H
   go_enter Try.func9, Try.ntmps9
   go_wp2_with (first | ((with_reducible refine gate_callee (f := 20) rfl ?_); refine goesL_ (some 14) rfl rfl Try.func20 (by kernel_rfl) rfl #[.slice A1 l1.length c1, .int .i64 a2] rfl zG ?_; (with_reducible refine (impl_MakeBytes.calls k _ _ l1 a2 t244 _ ?side1 ?side2 A4.out).mono ?_); (case side1 => exact cT HR1); (case side2 => exact HC1.out); rintro e w12 ⟨v245, rfl, ho0, hb⟩; refine ⟨_, rfl, ?_⟩; have HO246 := Aside0.mk (Kd.R_lower ho0 (below_size (zB HB))); replace HB := bS HB hb; (try clear hb); (try clear ho0); obtain ⟨Ao13, co13, eo13⟩ := Kd.R_slice HO246.out; subst eo13) | ((with_reducible refine gate_callee (f := 29) rfl ?_); refine goesL_ (some 15) rfl rfl Try.func29 (by kernel_rfl) rfl #[.slice A0 l0.length c0, .slice Ao13 t244.length co13] rfl zG ?_; (with_reducible refine (impl_ReadPrefix.calls k _ _ l0 _ _ t244 t247 t248 _ ?side1 ?side2 ?side3 ?side4 A5.out).mono ?_); (case side1 => exact cS HR0 HB); (case side2 => exact HC0.out); (case side3 => repeat (first | exact (Kd.R_reads' HO246.out).2.2 | (with_reducible refine Kd.C_alloc ?_ _) | (with_reducible refine Kd.C_drewN ?_ _) | (with_reducible refine Kd.C_drew ?_))); (case side4 => exact (Kd.R_reads' HO246.out).2.1); rintro e w14 ⟨v249, rfl, ho0, hb⟩; refine ⟨_, rfl, ?_⟩; have HO250 := Aside0.mk (Kd.S_lower (Kd.S_new' ho0 (Kd.R_lt (zR HO246))) (below_size (zB HB))); replace HO246 := Aside0.mk (Kd.R_below (zR HO246) hb); replace HB := bS HB hb; (try clear hb); (try clear ho0)) | ((with_reducible refine gate_callee (f := 23) rfl ?_); refine goesL_ (some 20) rfl rfl Try.func23 (by kernel_rfl) rfl #[.slice A1 l1.length c1, .int .i64 a2] rfl zG ?_; (with_reducible refine (impl_MakeMessage.calls k _ _ l1 a2 t251 _ ?side1 ?side2 A6.out).mono ?_); (case side1 => exact cS HR1 HB); (case side2 => exact HC1.out); rintro e w15 ⟨v252, rfl, ho0, hb⟩; refine ⟨_, rfl, ?_⟩; have HO253 := Aside0.mk (Kd.S_lower (Kd.S_new' (Kd.S_new' ho0 (Kd.R_lt (zR HO246))) (Kd.S_lt (zS HO250))) (below_size (zB HB))); replace HO246 := Aside0.mk (Kd.R_below (zR HO246) hb); replace HO250 := Aside0.mk (Kd.S_elder' (zS HO250) (Kd.S_base ho0) hb); replace HB := bS HB hb; (try clear hb); (try clear ho0); obtain ⟨Ao16, co16, eo16⟩ := Kd.S_slice HO253.out; subst eo16; have q17 : ((l0.length : Int) : Int) ≤ ((t251.length : Int) : Int) := zD; obtain ⟨i017, hi017, _, hsz17, _⟩ := info_parts info58; have hroom17 : t251.length ≤ co16 := (Kd.S_reads' HO253.out).2.1; have hC17 : Kd.C k58 _ Ao16 t251.length t251 := (Kd.S_reads' HO253.out).2.2; have hcut17 := cut_to (P := Try.prog) 39 58 .i64 Try.underlying39 hi017 Ao16 t251.length co16 (l0.length : Int) (zD) q17 hroom17; have hr17 := Kd.C_take (m := ((l0.length : Int) : Int).toNat) hC17 (by omega); have hy17 : y254.length = ((l0.length : Int) : Int).toNat := (by rw [Ny254.out, List.length_take]; omega); rw [← Ny254.out] at hr17; rw [← hy17] at hcut17; have HR257 := Aside0.mk hr17; have HC257 := Aside0.mk (show y254.length ≤ co16 from by omega); clear hr17 hC17 hroom17 hi017 hsz17; have KY17 := Aside0.mk hy17; clear hy17; have KL17 := Aside0.mk (show ((l0.length : Int) : Int).toNat ≤ t251.length from by omega); replace q17 := eq_true q17; obtain ⟨Ao18, co18, eo18⟩ := Kd.S_slice HO250.out; subst eo18) | (go_at_call 22; (with_reducible refine (impl_EqualMessages.calls k _ _ t247 _ _ y254 t258 _ ?side1 ?side2 ?side3 ?side4 A11.out).mono ?_); (case side1 => repeat (first | exact (Kd.S_reads' HO250.out).2.2 | (with_reducible refine Kd.C_alloc ?_ _) | (with_reducible refine Kd.C_drewN ?_ _) | (with_reducible refine Kd.C_drew ?_))); (case side2 => exact (Kd.S_reads' HO250.out).2.1); (case side3 => repeat (first | exact (by repeat (first | (with_reducible exact HR257.out) | (with_reducible refine Kd.C_alloc ?_ _) | (with_reducible refine Kd.C_drewN ?_ _) | (with_reducible refine Kd.C_drew ?_) | exact HR257.out)) | (with_reducible refine Kd.C_alloc ?_ _) | (with_reducible refine Kd.C_drewN ?_ _) | (with_reducible refine Kd.C_drew ?_))); (case side4 => exact HC257.out); rintro e w19 ⟨rfl, hb⟩; replace HO246 := Aside0.mk (Kd.R_below (zR HO246) hb); replace HO250 := Aside0.mk (Kd.S_below (zS HO250) hb); replace HO253 := Aside0.mk (Kd.S_below (zS HO253) hb); replace HR257 := Aside0.mk (Kd.C_below (by repeat (first | (with_reducible exact HR257.out) | (with_reducible refine Kd.C_alloc ?_ _) | (with_reducible refine Kd.C_drewN ?_ _) | (with_reducible refine Kd.C_drew ?_) | exact HR257.out)) hb); replace HB := bS HB hb; (try clear hb)))
   go_ret
   exact ⟨zE, zB HB⟩
  ·rw [if_neg c8] at H
   have c8b0 : decide ((l0.length : Int) ≤ (t251.length : Int)) = false := decide_eq_false c8
   have c8b1 : decide (l0.length ≤ t251.length) = false := decide_eq_false (fun h => c8 (Int.ofNat_le.mpr h))
   clear c8
   obtain rfl := Option.some.inj H
   go_enter Try.func9, Try.ntmps9
   go_wp2_with (first | ((with_reducible refine gate_callee (f := 20) rfl ?_); refine goesL_ (some 14) rfl rfl Try.func20 (by kernel_rfl) rfl #[.slice A1 l1.length c1, .int .i64 a2] rfl zG ?_; (with_reducible refine (impl_MakeBytes.calls k _ _ l1 a2 t244 _ ?side1 ?side2 A4.out).mono ?_); (case side1 => exact cT HR1); (case side2 => exact HC1.out); rintro e w20 ⟨v245, rfl, ho0, hb⟩; refine ⟨_, rfl, ?_⟩; have HO246 := Aside0.mk (Kd.R_lower ho0 (below_size (zB HB))); replace HB := bS HB hb; (try clear hb); (try clear ho0); obtain ⟨Ao21, co21, eo21⟩ := Kd.R_slice HO246.out; subst eo21) | ((with_reducible refine gate_callee (f := 29) rfl ?_); refine goesL_ (some 15) rfl rfl Try.func29 (by kernel_rfl) rfl #[.slice A0 l0.length c0, .slice Ao21 t244.length co21] rfl zG ?_; (with_reducible refine (impl_ReadPrefix.calls k _ _ l0 _ _ t244 t247 t248 _ ?side1 ?side2 ?side3 ?side4 A5.out).mono ?_); (case side1 => exact cS HR0 HB); (case side2 => exact HC0.out); (case side3 => repeat (first | exact (Kd.R_reads' HO246.out).2.2 | (with_reducible refine Kd.C_alloc ?_ _) | (with_reducible refine Kd.C_drewN ?_ _) | (with_reducible refine Kd.C_drew ?_))); (case side4 => exact (Kd.R_reads' HO246.out).2.1); rintro e w22 ⟨v249, rfl, ho0, hb⟩; refine ⟨_, rfl, ?_⟩; have HO250 := Aside0.mk (Kd.S_lower (Kd.S_new' ho0 (Kd.R_lt (zR HO246))) (below_size (zB HB))); replace HO246 := Aside0.mk (Kd.R_below (zR HO246) hb); replace HB := bS HB hb; (try clear hb); (try clear ho0)) | ((with_reducible refine gate_callee (f := 23) rfl ?_); refine goesL_ (some 20) rfl rfl Try.func23 (by kernel_rfl) rfl #[.slice A1 l1.length c1, .int .i64 a2] rfl zG ?_; (with_reducible refine (impl_MakeMessage.calls k _ _ l1 a2 t251 _ ?side1 ?side2 A6.out).mono ?_); (case side1 => exact cS HR1 HB); (case side2 => exact HC1.out); rintro e w23 ⟨v252, rfl, ho0, hb⟩; refine ⟨_, rfl, ?_⟩; have HO253 := Aside0.mk (Kd.S_lower (Kd.S_new' (Kd.S_new' ho0 (Kd.R_lt (zR HO246))) (Kd.S_lt (zS HO250))) (below_size (zB HB))); replace HO246 := Aside0.mk (Kd.R_below (zR HO246) hb); replace HO250 := Aside0.mk (Kd.S_elder' (zS HO250) (Kd.S_base ho0) hb); replace HB := bS HB hb; (try clear hb); (try clear ho0); obtain ⟨Ao24, co24, eo24⟩ := Kd.S_slice HO253.out; subst eo24))
   go_ret
   exact ⟨zE, zB HB⟩
 ·rw [if_neg c7] at H
  have c7b0 : decide (0 ≤ t248) = false := decide_eq_false c7
  clear c7
  obtain rfl := Option.some.inj H
  go_enter Try.func9, Try.ntmps9
  go_wp2_with (first | ((with_reducible refine gate_callee (f := 20) rfl ?_); refine goesL_ (some 14) rfl rfl Try.func20 (by kernel_rfl) rfl #[.slice A1 l1.length c1, .int .i64 a2] rfl zG ?_; (with_reducible refine (impl_MakeBytes.calls k _ _ l1 a2 t244 _ ?side1 ?side2 A4.out).mono ?_); (case side1 => exact cT HR1); (case side2 => exact HC1.out); rintro e w25 ⟨v245, rfl, ho0, hb⟩; refine ⟨_, rfl, ?_⟩; have HO246 := Aside0.mk (Kd.R_lower ho0 (below_size (zB HB))); replace HB := bS HB hb; (try clear hb); (try clear ho0); obtain ⟨Ao26, co26, eo26⟩ := Kd.R_slice HO246.out; subst eo26) | ((with_reducible refine gate_callee (f := 29) rfl ?_); refine goesL_ (some 15) rfl rfl Try.func29 (by kernel_rfl) rfl #[.slice A0 l0.length c0, .slice Ao26 t244.length co26] rfl zG ?_; (with_reducible refine (impl_ReadPrefix.calls k _ _ l0 _ _ t244 t247 t248 _ ?side1 ?side2 ?side3 ?side4 A5.out).mono ?_); (case side1 => exact cS HR0 HB); (case side2 => exact HC0.out); (case side3 => repeat (first | exact (Kd.R_reads' HO246.out).2.2 | (with_reducible refine Kd.C_alloc ?_ _) | (with_reducible refine Kd.C_drewN ?_ _) | (with_reducible refine Kd.C_drew ?_))); (case side4 => exact (Kd.R_reads' HO246.out).2.1); rintro e w27 ⟨v249, rfl, ho0, hb⟩; refine ⟨_, rfl, ?_⟩; have HO250 := Aside0.mk (Kd.S_lower (Kd.S_new' ho0 (Kd.R_lt (zR HO246))) (below_size (zB HB))); replace HO246 := Aside0.mk (Kd.R_below (zR HO246) hb); replace HB := bS HB hb; (try clear hb); (try clear ho0)) | ((with_reducible refine gate_callee (f := 23) rfl ?_); refine goesL_ (some 20) rfl rfl Try.func23 (by kernel_rfl) rfl #[.slice A1 l1.length c1, .int .i64 a2] rfl zG ?_; (with_reducible refine (impl_MakeMessage.calls k _ _ l1 a2 t251 _ ?side1 ?side2 A6.out).mono ?_); (case side1 => exact cS HR1 HB); (case side2 => exact HC1.out); rintro e w28 ⟨v252, rfl, ho0, hb⟩; refine ⟨_, rfl, ?_⟩; have HO253 := Aside0.mk (Kd.S_lower (Kd.S_new' (Kd.S_new' ho0 (Kd.R_lt (zR HO246))) (Kd.S_lt (zS HO250))) (below_size (zB HB))); replace HO246 := Aside0.mk (Kd.R_below (zR HO246) hb); replace HO250 := Aside0.mk (Kd.S_elder' (zS HO250) (Kd.S_base ho0) hb); replace HB := bS HB hb; (try clear hb); (try clear ho0)))
  go_ret
  exact ⟨zE, zB HB⟩

/-! ### impl_DecodeMessage: function 21 -/
def impl_DecodeMessage.f (k : Nat) (l0 : List (S47)) (l1 : List Int) : Option ((List (S58)) × Bool) := (impl_ReadPrefix.f k l0 l1).bind fun bt259 => (if bt259.2 = (l1.length : Int) then (some (bt259.1, true)) else (some (([] : List (S58)), false)))
theorem impl_DecodeMessage.mono : ∀ a0 a1 k, LeO (impl_DecodeMessage.f k a0 a1) (impl_DecodeMessage.f (k + 1) a0 a1) := by
 intro a0 a1 k
 unfold impl_DecodeMessage.f
 repeat' first
   | (with_reducible exact impl_ReadPrefix.mono _ _ _)
   | (with_reducible exact LeO.refl _)
   | (with_reducible exact LeO.none _)
   | (with_reducible refine LeO.ite ?_ ?_)
   | (with_reducible refine LeO.bind ?_ (fun _ => ?_))
   | exact impl_ReadPrefix.mono _ _ _
   | exact LeO.none _
   | refine LeO.ite ?_ ?_
   | refine LeO.bind ?_ (fun _ => ?_)
set_option maxHeartbeats 8000000 in
set_option maxRecDepth 100000 in
theorem impl_DecodeMessage.calls (k : Nat) (A0 : Option Addr) (c0 : Nat) (l0 : List (S47)) (A1 : Option Addr) (c1 : Nat) (l1 : List Int) (r1 : List (S58)) (r2 : Bool) (w : World) (hr0 : Kd.C k47 w A0 l0.length l0) (hc0 : l0.length ≤ c0) (hr1 : Kd.C (Kd.int .i64) w A1 l1.length l1) (hc1 : l1.length ≤ c1) (h : impl_DecodeMessage.f k l0 l1 = some (r1, r2)) :
  Calls Try.prog 21 #[.slice A0 l0.length c0, .slice A1 l1.length c1] w fun e w' => ∃ v0_ : Value, e = .returned (.tuple #[v0_, .bool r2]) ∧ Kd.S k58 58 w' w.heap.size (fun _ => True) v0_ r1 ∧ Below w.heap.size w w' := by
 have HR0 := Aside0.mk hr0
 have HC0 := Aside0.mk hc0
 clear hr0 hc0
 have HR1 := Aside0.mk hr1
 have HC1 := Aside0.mk hc1
 clear hr1 hc1
 have HB := Aside0.mk (Below.refl w.heap.size w)
 have H : ((impl_ReadPrefix.f k l0 l1).bind fun bt259 => (if bt259.2 = (l1.length : Int) then (some (bt259.1, true)) else (some (([] : List (S58)), false)))) = some (r1, r2) := h
 clear h
 replace H := Option.bind_eq_some_iff.mp H
 obtain ⟨⟨t259, t260⟩, A30, H⟩ := H
 replace H : (if t260 = (l1.length : Int) then (some (t259, true)) else (some (([] : List (S58)), false))) = some (r1, r2) := H
 have A3 := Aside0.mk A30
 clear A30
 by_cases c4 : t260 = (l1.length : Int)
 ·rw [if_pos c4] at H
  have c4b0 : (t260 == (l1.length : Int)) = true := beq_iff_eq.mpr c4
  have c4b1 : (t260 != (l1.length : Int)) = false := bne_eq_false_iff_eq.mpr c4
  clear c4
  simp only [Option.some.injEq, Prod.mk.injEq] at H
  obtain ⟨rfl, rfl⟩ := H
  go_enter Try.func21, Try.ntmps21
  go_wp2_with (first | ((with_reducible refine gate_callee (f := 29) rfl ?_); refine goesL_ (some 11) rfl rfl Try.func29 (by kernel_rfl) rfl #[.slice A0 l0.length c0, .slice A1 l1.length c1] rfl zG ?_; (with_reducible refine (impl_ReadPrefix.calls k _ _ l0 _ _ l1 t259 t260 _ ?side1 ?side2 ?side3 ?side4 A3.out).mono ?_); (case side1 => exact cT HR0); (case side2 => exact HC0.out); (case side3 => exact cT HR1); (case side4 => exact HC1.out); rintro e w5 ⟨v261, rfl, ho0, hb⟩; refine ⟨_, rfl, ?_⟩; have HO262 := Aside0.mk (Kd.S_lower ho0 (below_size (zB HB))); replace HB := bS HB hb; (try clear hb); (try clear ho0)))
  go_ret2
  exact ⟨_, zE, by (with_reducible repeat (first | apply Kd.S_alloc | apply Kd.S_drewN | apply Kd.S_drew)); exact HO262.out, zB HB⟩
 ·rw [if_neg c4] at H
  have c4b0 : (t260 == (l1.length : Int)) = false := beq_eq_false_iff_ne.mpr c4
  have c4b1 : (t260 != (l1.length : Int)) = true := bne_iff_ne.mpr c4
  simp only [Option.some.injEq, Prod.mk.injEq] at H
  obtain ⟨rfl, rfl⟩ := H
  go_enter Try.func21, Try.ntmps21
  go_wp2_with (first | ((with_reducible refine gate_callee (f := 29) rfl ?_); refine goesL_ (some 11) rfl rfl Try.func29 (by kernel_rfl) rfl #[.slice A0 l0.length c0, .slice A1 l1.length c1] rfl zG ?_; (with_reducible refine (impl_ReadPrefix.calls k _ _ l0 _ _ l1 t259 t260 _ ?side1 ?side2 ?side3 ?side4 A3.out).mono ?_); (case side1 => exact cT HR0); (case side2 => exact HC0.out); (case side3 => exact cT HR1); (case side4 => exact HC1.out); rintro e w6 ⟨v261, rfl, ho0, hb⟩; refine ⟨_, rfl, ?_⟩; have HO262 := Aside0.mk (Kd.S_lower ho0 (below_size (zB HB))); replace HB := bS HB hb; (try clear hb); (try clear ho0)))
  go_ret2
  exact ⟨_, zE, by first | exact Kd.S_nil _ _ _ _ _ | exact Kd.N_nil _ _ _ _ _ | exact Kd.V_nil _ _ _ _ _ | exact Kd.Q_nil _ _ _ _ _ | exact Kd.R_nil _ _ _ _ _, zB HB⟩

/-! ### impl_LostBy: function 12 -/
mutual
def impl_LostBy.j0 : Nat → List (S47) → List (S47) → Int → Bool → Option (Int)
 | 0, _, _, _, _ => none
 | k + 1, x0, x1, x2, x18 => if x18 = true then (some 0) else (impl_LostBy.l0 k x0 x1 0 x2 0)
def impl_LostBy.l0 : Nat → List (S47) → List (S47) → Int → Int → Int → Option (Int)
 | 0, _, _, _, _, _ => none
 | k + 1, x0, x1, x7, x19, x20 => if x20 < x19 then ((impl_MakeBytes.f k x0 x20).bind fun t265 => ((impl_DecodeMessage.f k x1 t265).bind fun bt268 => (if bt268.2 = true then (impl_LostBy.l0 k x0 x1 x7 x19 (wrap64 (x20 + 1))) else (impl_LostBy.l0 k x0 x1 (wrap64 (x7 + 1)) x19 (wrap64 (x20 + 1)))))) else (some x7)
end
def impl_LostBy.f (k : Nat) (l0 : List (S47)) (l1 : List (S47)) (a2 : Int) : Option (Int) := (impl_InRange.f a2 0 50).bind fun t263 => (if t263 = true then ((impl_IsFormat.f k l0).bind fun t264 => (impl_LostBy.j0 k l0 l1 a2 (!t264))) else (impl_LostBy.j0 k l0 l1 a2 true))
theorem impl_LostBy.mono_l : ∀ k, (∀ y0 y1 y2 y3, LeO (impl_LostBy.j0 k y0 y1 y2 y3) (impl_LostBy.j0 (k + 1) y0 y1 y2 y3)) ∧ (∀ y0 y1 y2 y3 y4, LeO (impl_LostBy.l0 k y0 y1 y2 y3 y4) (impl_LostBy.l0 (k + 1) y0 y1 y2 y3 y4))
 | 0 => ⟨fun _ _ _ _ r h => by simp [impl_LostBy.j0] at h, fun _ _ _ _ _ r h => by simp [impl_LostBy.l0] at h⟩
 | k + 1 => by
  obtain ⟨ih0, ih1⟩ := impl_LostBy.mono_l k
  refine ⟨?_, ?_⟩
  ·intro y0 y1 y2 y3
   unfold impl_LostBy.j0
   repeat' first
   | (with_reducible exact ih0 _ _ _ _)
   | (with_reducible exact ih1 _ _ _ _ _)
   | (with_reducible exact impl_DecodeMessage.mono _ _ _)
   | (with_reducible exact impl_IsFormat.mono _ _)
   | (with_reducible exact impl_MakeBytes.mono _ _ _)
   | (with_reducible exact LeO.refl _)
   | (with_reducible exact LeO.none _)
   | (with_reducible refine LeO.ite ?_ ?_)
   | (with_reducible refine LeO.bind ?_ (fun _ => ?_))
   | exact ih0 _ _ _ _
   | exact ih1 _ _ _ _ _
   | exact impl_DecodeMessage.mono _ _ _
   | exact impl_IsFormat.mono _ _
   | exact impl_MakeBytes.mono _ _ _
   | exact LeO.none _
   | refine LeO.ite ?_ ?_
   | refine LeO.bind ?_ (fun _ => ?_)
  ·intro y0 y1 y2 y3 y4
   unfold impl_LostBy.l0
   repeat' first
   | (with_reducible exact ih0 _ _ _ _)
   | (with_reducible exact ih1 _ _ _ _ _)
   | (with_reducible exact impl_DecodeMessage.mono _ _ _)
   | (with_reducible exact impl_IsFormat.mono _ _)
   | (with_reducible exact impl_MakeBytes.mono _ _ _)
   | (with_reducible exact LeO.refl _)
   | (with_reducible exact LeO.none _)
   | (with_reducible refine LeO.ite ?_ ?_)
   | (with_reducible refine LeO.bind ?_ (fun _ => ?_))
   | exact ih0 _ _ _ _
   | exact ih1 _ _ _ _ _
   | exact impl_DecodeMessage.mono _ _ _
   | exact impl_IsFormat.mono _ _
   | exact impl_MakeBytes.mono _ _ _
   | exact LeO.none _
   | refine LeO.ite ?_ ?_
   | refine LeO.bind ?_ (fun _ => ?_)
theorem impl_LostBy.mono : ∀ a0 a1 a2 k, LeO (impl_LostBy.f k a0 a1 a2) (impl_LostBy.f (k + 1) a0 a1 a2) := by
 intro a0 a1 a2 k
 obtain ⟨ih0, ih1⟩ := impl_LostBy.mono_l k
 unfold impl_LostBy.f
 repeat' first
   | (with_reducible exact ih0 _ _ _ _)
   | (with_reducible exact ih1 _ _ _ _ _)
   | (with_reducible exact impl_DecodeMessage.mono _ _ _)
   | (with_reducible exact impl_IsFormat.mono _ _)
   | (with_reducible exact impl_MakeBytes.mono _ _ _)
   | (with_reducible exact LeO.refl _)
   | (with_reducible exact LeO.none _)
   | (with_reducible refine LeO.ite ?_ ?_)
   | (with_reducible refine LeO.bind ?_ (fun _ => ?_))
   | exact ih0 _ _ _ _
   | exact ih1 _ _ _ _ _
   | exact impl_DecodeMessage.mono _ _ _
   | exact impl_IsFormat.mono _ _
   | exact impl_MakeBytes.mono _ _ _
   | exact LeO.none _
   | refine LeO.ite ?_ ?_
   | refine LeO.bind ?_ (fun _ => ?_)
set_option maxHeartbeats 8000000 in
set_option maxRecDepth 100000 in
theorem impl_LostBy.calls (k : Nat) (A0 : Option Addr) (c0 : Nat) (l0 : List (S47)) (A1 : Option Addr) (c1 : Nat) (l1 : List (S47)) (a2 : Int) (r : Int) (w : World) (hr0 : Kd.C k47 w A0 l0.length l0) (hc0 : l0.length ≤ c0) (hr1 : Kd.C k47 w A1 l1.length l1) (hc1 : l1.length ≤ c1) (h : impl_LostBy.f k l0 l1 a2 = some r) :
  Calls Try.prog 12 #[.slice A0 l0.length c0, .slice A1 l1.length c1, .int .i64 a2] w fun e w' => e = .returned (.int .i64 r) ∧ Below w.heap.size w w' := by
 have HR0 := Aside0.mk hr0
 have HC0 := Aside0.mk hc0
 clear hr0 hc0
 have HR1 := Aside0.mk hr1
 have HC1 := Aside0.mk hc1
 clear hr1 hc1
 have HB := Aside0.mk (Below.refl w.heap.size w)
 have H : ((impl_InRange.f a2 0 50).bind fun t263 => (if t263 = true then ((impl_IsFormat.f k l0).bind fun t264 => (impl_LostBy.j0 k l0 l1 a2 (!t264))) else (impl_LostBy.j0 k l0 l1 a2 true))) = some r := h
 clear h
 have HC4 := Aside0.mk H
 clear H
 go_enter Try.func12, Try.ntmps12
 go_upto_region 1 with (fail)
 go_cut [18] (fun v18 wc => ∃ (kq : Nat) (x18_3 : Bool), v18 = .bool x18_3 ∧ Aside0 (impl_LostBy.j0 kq l0 l1 a2 x18_3 = some r) ∧ Aside0 (kq ≤ k) ∧ Aside0 (Below w.heap.size w wc))
 case first =>
  have H := HC4.out
  clear HC4
  obtain ⟨t263, A5, H⟩ := bindS H
  by_cases c6 : t263 = true
  ·subst c6
   have H1 : ((impl_IsFormat.f k l0).bind fun t264 => (impl_LostBy.j0 k l0 l1 a2 (!t264))) = some r := by rw [if_pos rfl] at H; exact H
   clear H
   have H := H1
   clear H1
   obtain ⟨t264, A7, H⟩ := bindS H
   have H' := Aside0.mk H
   clear H
   go_wp2_with (first | ((with_reducible refine gate_callee (f := 33) rfl ?_); refine goesL_ (some 12) rfl rfl Try.func33 (by kernel_rfl) rfl #[.int .i64 a2, .int .i64 0, .int .i64 50] rfl zG ?_; (with_reducible refine (impl_InRange.calls a2 0 50 true _ A5.out).mono ?_); rintro e w' ⟨rfl, ⟨nd, rfl⟩⟩; refine ⟨_, rfl, ?_⟩) | (go_at_call 17; (with_reducible refine (impl_IsFormat.calls k _ _ l0 t264 _ ?side1 ?side2 A7.out).mono ?_); (case side1 => repeat (first | exact (Kd.C_below HR0.out (zB HB)) | (with_reducible refine Kd.C_alloc ?_ _) | (with_reducible refine Kd.C_drewN ?_ _) | (with_reducible refine Kd.C_drew ?_))); (case side2 => exact HC0.out); rintro e w8 ⟨rfl, hb⟩; replace HB := bS HB hb; (try clear hb)))
   go_meet
   case rel => exact ⟨_, (!t264), zF, H', ⟨by first | omega | exact Nat.le_refl _⟩, ⟨zB HB⟩⟩
  ·replace c6 := Bool.eq_false_iff.mpr c6
   subst c6
   have H1 : (impl_LostBy.j0 k l0 l1 a2 true) = some r := by rw [if_neg (show ¬ (false = true) by decide)] at H; exact H
   clear H
   have H := H1
   clear H1
   have H' := Aside0.mk H
   clear H
   go_wp2_with (first | ((with_reducible refine gate_callee (f := 33) rfl ?_); refine goesL_ (some 12) rfl rfl Try.func33 (by kernel_rfl) rfl #[.int .i64 a2, .int .i64 0, .int .i64 50] rfl zG ?_; (with_reducible refine (impl_InRange.calls a2 0 50 false _ A5.out).mono ?_); rintro e w' ⟨rfl, ⟨nd, rfl⟩⟩; refine ⟨_, rfl, ?_⟩))
   go_meet
   case rel => exact ⟨_, (true), zF, H', ⟨by first | omega | exact Nat.le_refl _⟩, ⟨zB HB⟩⟩
 case rest =>
  clear HC4
  try clear c1
  try clear p2
  try clear c3
  try clear c6
  obtain ⟨kq, x18_3, rfl, HA, HJ3, HB⟩ := hcut
  cases kq with
  | zero => exact absurd HA.out (by simp [impl_LostBy.j0])
  | succ kj3 =>
   have H := HA.out
   clear HA
   simp only [impl_LostBy.j0] at H
   by_cases c9 : x18_3 = true
   ·subst c9
    have H1 : (some 0) = some r := by rw [if_pos rfl] at H; exact H
    clear H
    have H := H1
    clear H1
    obtain rfl := Option.some.inj H
    go_wp2
    go_ret
    exact ⟨zE, zB HB⟩
   ·replace c9 := Bool.eq_false_iff.mpr c9
    subst c9
    have H1 : (impl_LostBy.l0 kj3 l0 l1 0 a2 0) = some r := by rw [if_neg (show ¬ (false = true) by decide)] at H; exact H
    clear H
    have H := H1
    clear H1
    have H' := Aside0.mk H
    clear H
    go_wp2
    go_loopg [7, 20] kj3 (fun kq v7 v20 w' => ∃ (x7_2 : Int) (x20_2 : Int), v7 = .int .i64 x7_2 ∧ v20 = .int .i64 x20_2 ∧ Aside0 (impl_LostBy.l0 kq l0 l1 x7_2 a2 x20_2 = some r) ∧ Aside0 (kq ≤ kj3) ∧ Aside0 (Below w.heap.size w w'))
    case atStart => exact ⟨(0), (0), zF, zF, H', ⟨Nat.le_refl _⟩, ⟨zB HB⟩⟩
    case round =>
     clear H'
     try clear c1
     try clear p2
     try clear c3
     try clear c6
     try clear c9
     try clear p2
     obtain ⟨x7_2, x20_2, rfl, rfl, HA, HK2, HB⟩ := hrel
     cases gk with
     | zero => exact absurd HA.out (by simp [impl_LostBy.l0])
     | succ k2 =>
      have H := HA.out
      clear HA
      simp only [impl_LostBy.l0] at H
      by_cases c10 : x20_2 < a2
      ·rw [if_pos c10] at H
       have c10b0 : decide (x20_2 < a2) = true := decide_eq_true c10
       clear c10
       obtain ⟨t265, A11, H⟩ := bindS H
       replace H := Option.bind_eq_some_iff.mp H
       obtain ⟨⟨t268, t269⟩, A120, H⟩ := H
       replace H : (if t269 = true then (impl_LostBy.l0 k2 l0 l1 x7_2 a2 (wrap64 (x20_2 + 1))) else (impl_LostBy.l0 k2 l0 l1 (wrap64 (x7_2 + 1)) a2 (wrap64 (x20_2 + 1)))) = some r := H
       have A12 := Aside0.mk A120
       clear A120
       by_cases c13 : t269 = true
       ·subst c13
        have H1 : (impl_LostBy.l0 k2 l0 l1 x7_2 a2 (wrap64 (x20_2 + 1))) = some r := by rw [if_pos rfl] at H; exact H
        clear H
        have H := H1
        clear H1
        have H' := Aside0.mk H
        clear H
        go_wp2_with (first | ((with_reducible refine gate_callee (f := 20) rfl ?_); refine goesL_ (some 27) rfl rfl Try.func20 (by kernel_rfl) rfl #[.slice A0 l0.length c0, .int .i64 x20_2] rfl zG ?_; (with_reducible refine (impl_MakeBytes.calls k2 _ _ l0 x20_2 t265 _ ?side1 ?side2 A11.out).mono ?_); (case side1 => exact cS HR0 HB); (case side2 => exact HC0.out); rintro e w14 ⟨v266, rfl, ho0, hb⟩; refine ⟨_, rfl, ?_⟩; have HO267 := Aside0.mk (Kd.R_lower ho0 (below_size (zB HB))); replace HB := bS HB hb; (try clear hb); (try clear ho0); obtain ⟨Ao15, co15, eo15⟩ := Kd.R_slice HO267.out; subst eo15) | ((with_reducible refine gate_callee (f := 21) rfl ?_); refine goesL_ (some 28) rfl rfl Try.func21 (by kernel_rfl) rfl #[.slice A1 l1.length c1, .slice Ao15 t265.length co15] rfl zG ?_; (with_reducible refine (impl_DecodeMessage.calls k2 _ _ l1 _ _ t265 t268 true _ ?side1 ?side2 ?side3 ?side4 A12.out).mono ?_); (case side1 => exact cS HR1 HB); (case side2 => exact HC1.out); (case side3 => repeat (first | exact (Kd.R_reads' HO267.out).2.2 | (with_reducible refine Kd.C_alloc ?_ _) | (with_reducible refine Kd.C_drewN ?_ _) | (with_reducible refine Kd.C_drew ?_))); (case side4 => exact (Kd.R_reads' HO267.out).2.1); rintro e w16 ⟨v270, rfl, ho0, hb⟩; refine ⟨_, rfl, ?_⟩; have HO271 := Aside0.mk (Kd.S_lower (Kd.S_new' ho0 (Kd.R_lt (zR HO267))) (below_size (zB HB))); replace HO267 := Aside0.mk (Kd.R_below (zR HO267) hb); replace HB := bS HB hb; (try clear hb); (try clear ho0)))
        go_roundg k2
        case measure => have := HJ3.out; have := HK2.out; omega
        case rel => exact ⟨(x7_2), (wrap64 (x20_2 + 1)), zF, zF, H', ⟨by have := HJ3.out; have := HK2.out; omega⟩, ⟨zB HB⟩⟩
       ·replace c13 := Bool.eq_false_iff.mpr c13
        subst c13
        have H1 : (impl_LostBy.l0 k2 l0 l1 (wrap64 (x7_2 + 1)) a2 (wrap64 (x20_2 + 1))) = some r := by rw [if_neg (show ¬ (false = true) by decide)] at H; exact H
        clear H
        have H := H1
        clear H1
        have H' := Aside0.mk H
        clear H
        go_wp2_with (first | ((with_reducible refine gate_callee (f := 20) rfl ?_); refine goesL_ (some 27) rfl rfl Try.func20 (by kernel_rfl) rfl #[.slice A0 l0.length c0, .int .i64 x20_2] rfl zG ?_; (with_reducible refine (impl_MakeBytes.calls k2 _ _ l0 x20_2 t265 _ ?side1 ?side2 A11.out).mono ?_); (case side1 => exact cS HR0 HB); (case side2 => exact HC0.out); rintro e w17 ⟨v266, rfl, ho0, hb⟩; refine ⟨_, rfl, ?_⟩; have HO267 := Aside0.mk (Kd.R_lower ho0 (below_size (zB HB))); replace HB := bS HB hb; (try clear hb); (try clear ho0); obtain ⟨Ao18, co18, eo18⟩ := Kd.R_slice HO267.out; subst eo18) | ((with_reducible refine gate_callee (f := 21) rfl ?_); refine goesL_ (some 28) rfl rfl Try.func21 (by kernel_rfl) rfl #[.slice A1 l1.length c1, .slice Ao18 t265.length co18] rfl zG ?_; (with_reducible refine (impl_DecodeMessage.calls k2 _ _ l1 _ _ t265 t268 false _ ?side1 ?side2 ?side3 ?side4 A12.out).mono ?_); (case side1 => exact cS HR1 HB); (case side2 => exact HC1.out); (case side3 => repeat (first | exact (Kd.R_reads' HO267.out).2.2 | (with_reducible refine Kd.C_alloc ?_ _) | (with_reducible refine Kd.C_drewN ?_ _) | (with_reducible refine Kd.C_drew ?_))); (case side4 => exact (Kd.R_reads' HO267.out).2.1); rintro e w19 ⟨v270, rfl, ho0, hb⟩; refine ⟨_, rfl, ?_⟩; have HO271 := Aside0.mk (Kd.S_lower (Kd.S_new' ho0 (Kd.R_lt (zR HO267))) (below_size (zB HB))); replace HO267 := Aside0.mk (Kd.R_below (zR HO267) hb); replace HB := bS HB hb; (try clear hb); (try clear ho0)))
        go_roundg k2
        case measure => have := HJ3.out; have := HK2.out; omega
        case rel => exact ⟨(wrap64 (x7_2 + 1)), (wrap64 (x20_2 + 1)), zF, zF, H', ⟨by have := HJ3.out; have := HK2.out; omega⟩, ⟨zB HB⟩⟩
      ·rw [if_neg c10] at H
       have c10b0 : decide (x20_2 < a2) = false := decide_eq_false c10
       clear c10
       obtain rfl := Option.some.inj H
       go_wp2
       go_ret
       exact ⟨zE, zB HB⟩

end Go.Proofs.Yticpmgofegaaeaa.PFnDiffers
