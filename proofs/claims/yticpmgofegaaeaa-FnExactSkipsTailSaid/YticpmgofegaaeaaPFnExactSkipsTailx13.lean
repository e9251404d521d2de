-- WRITTEN by pp.py, this session's own wrapper around the print; not trusted: Lean checks it
import Derived.Test.YticpmgofegaaeaaPFnExactSkipsTailx0
import Derived.Test.YticpmgofegaaeaaPFnExactSkipsTailx8
import Derived.Test.YticpmgofegaaeaaPFnExactSkipsTailx9
import Derived.Test.YticpmgofegaaeaaPFnExactSkipsTailx11
import Derived.Test.YticpmgofegaaeaaPFnExactSkipsTailx12
namespace Go.Proofs.Yticpmgofegaaeaa.PFnExactSkipsTail
open Go.RowKit Go.Proofs.Yticpmgofegaaeaa.Hw Go.Proofs.YticpmgofegaaeaaW.PrintWords Go.Proofs.YticpmgofegaaeaaW.PrintLast Go.Proofs.YticpmgofegaaeaaW.PrintMore
attribute [local go_sem] max2_int min2_int max_two min_two max_three min_three max_four min_four   -- for this text's walks alone
set_option linter.unusedVariables false
set_option linter.unusedSimpArgs false
set_option linter.unusedSectionVars false

/-! ### impl_ReadPrefix: function 29 -/
def impl_ReadPrefix.l0 : Nat → List (S47) → List Int → List (S58) → Int → List (S47) → Int → Int → Option ((List (S58)) × Int)
 | 0, _, _, _, _, _, _, _ => none
 | k + 1, x0, x1, x6, x7, x17, x18, x19 => if x19 < x18 then (if 0 ≤ x19 then (if x19 < (x17.length : Int) then ((impl_IsThere.f x0 x6 x19).bind fun t389 => (if t389 = true then (if 0 ≤ x7 then (if x7 ≤ (x1.length : Int) then ((impl_readField.f ((rd_T47 x17 x19).f0) ((rd_T47 x17 x19).f1) ((rd_T47 x17 x19).f2) ((rd_T47 x17 x19).f3) (x1.drop (x7 : Int).toNat)).bind fun bt391 => (if bt391.2.2.2 = true then (if x6.length < 4398046511104 then (impl_ReadPrefix.l0 k x0 x1 (x6 ++ [(⟨bt391.1, bt391.2.1⟩ : S58)]) (wrap64 (x7 + bt391.2.2.1)) x17 x18 (wrap64 (x19 + 1))) else (none)) else (some (([] : List (S58)), (-1))))) else (none)) else (none)) else (if x6.length < 4398046511104 then (impl_ReadPrefix.l0 k x0 x1 (x6 ++ [(⟨0, ([] : List Int)⟩ : S58)]) x7 x17 x18 (wrap64 (x19 + 1))) else (none)))) else (none)) else (none)) else (some (x6, x7))
def impl_ReadPrefix.f (k : Nat) (l0 : List (S47)) (l1 : List Int) : Option ((List (S58)) × Int) := (impl_IsFormat.f k l0).bind fun t386 => (if t386 = true then (impl_ReadPrefix.l0 k l0 l1 (([] : List (S58))) 0 l0 (l0.length : Int) 0) else (some (([] : List (S58)), (-1))))
theorem impl_ReadPrefix.mono_l : ∀ k, (∀ y0 y1 y2 y3 y4 y5 y6, LeO (impl_ReadPrefix.l0 k y0 y1 y2 y3 y4 y5 y6) (impl_ReadPrefix.l0 (k + 1) y0 y1 y2 y3 y4 y5 y6))
 | 0 => fun _ _ _ _ _ _ _ r h => by simp [impl_ReadPrefix.l0] at h
 | k + 1 => by
  have ih0 := impl_ReadPrefix.mono_l k
  ·intro y0 y1 y2 y3 y4 y5 y6
   unfold impl_ReadPrefix.l0
   repeat' first
   | (with_reducible exact ih0 _ _ _ _ _ _ _)
   | (with_reducible exact impl_IsFormat.mono _ _)
   | (with_reducible exact LeO.refl _)
   | (with_reducible exact LeO.none _)
   | (with_reducible refine LeO.ite ?_ ?_)
   | (with_reducible refine LeO.bind ?_ (fun _ => ?_))
   | exact ih0 _ _ _ _ _ _ _
   | exact impl_IsFormat.mono _ _
   | exact LeO.none _
   | refine LeO.ite ?_ ?_
   | refine LeO.bind ?_ (fun _ => ?_)
theorem impl_ReadPrefix.mono : ∀ a0 a1 k, LeO (impl_ReadPrefix.f k a0 a1) (impl_ReadPrefix.f (k + 1) a0 a1) := by
 intro a0 a1 k
 have ih0 := impl_ReadPrefix.mono_l k
 unfold impl_ReadPrefix.f
 repeat' first
   | (with_reducible exact ih0 _ _ _ _ _ _ _)
   | (with_reducible exact impl_IsFormat.mono _ _)
   | (with_reducible exact LeO.refl _)
   | (with_reducible exact LeO.none _)
   | (with_reducible refine LeO.ite ?_ ?_)
   | (with_reducible refine LeO.bind ?_ (fun _ => ?_))
   | exact ih0 _ _ _ _ _ _ _
   | exact impl_IsFormat.mono _ _
   | exact LeO.none _
   | refine LeO.ite ?_ ?_
   | refine LeO.bind ?_ (fun _ => ?_)
def impl_ReadPrefix.T9 : Bool × List (List Nat × List Nat) := (true, [([], []), ([], []), ([], []), ([1, 2], [1, 2]), ([0, 3], [0, 3]), ([4], [4]), ([5], [5]), ([5], [5]), ([5], [5]), ([], []), ([9, 6, 4, 0, 1, 2, 3, 4, 5, 6, 9], [6, 9]), ([7, 10, 0, 1, 2, 3, 4, 5, 6, 7, 9, 10], [7]), ([8, 11, 0, 1, 2, 3, 4, 5, 6, 7, 8, 9, 10, 11], [8])])
def impl_ReadPrefix.B9 : List Nat := [0, 0, 0, 6, 15, 31, 63, 63, 63, 0, 639, 1791, 4095]
theorem impl_ReadPrefix.tab9 : rtab .any (opsOf Try.f29 9) = impl_ReadPrefix.T9 := by kernel_rfl
theorem impl_ReadPrefix.bits9 : waitsOk impl_ReadPrefix.T9.2 impl_ReadPrefix.B9 = true := by kernel_rfl
set_option maxHeartbeats 8000000 in
set_option maxRecDepth 100000 in
theorem impl_ReadPrefix.calls (k : Nat) (A0 : Option Addr) (c0 : Nat) (l0 : List (S47)) (A1 : Option Addr) (c1 : Nat) (l1 : List Int) (r1 : List (S58)) (r2 : Int) (w : World) (hr0 : Kd.C k47 w A0 l0.length l0) (hc0 : l0.length ≤ c0) (hr1 : Kd.C (Kd.int .i64) w A1 l1.length l1) (hc1 : l1.length ≤ c1) (h : impl_ReadPrefix.f k l0 l1 = some (r1, r2)) :
  Calls Try.prog 29 #[.slice A0 l0.length c0, .slice A1 l1.length c1] w fun e w' => ∃ v0_ : Value, e = .returned (.tuple #[v0_, .int .i64 r2]) ∧ Kd.S k58 58 w' w.heap.size (fun _ => True) v0_ r1 ∧ Below w.heap.size w w' := by
 have hu47 := Try.underlying47
 have hu58 := Try.underlying58
 have HR0 := Aside0.mk hr0
 have HC0 := Aside0.mk hc0
 clear hr0 hc0
 have HR1 := Aside0.mk hr1
 have HC1 := Aside0.mk hc1
 clear hr1 hc1
 have HB := Aside0.mk (Below.refl w.heap.size w)
 have H : ((impl_IsFormat.f k l0).bind fun t386 => (if t386 = true then (impl_ReadPrefix.l0 k l0 l1 (([] : List (S58))) 0 l0 (l0.length : Int) 0) else (some (([] : List (S58)), (-1))))) = some (r1, r2) := h
 clear h
 obtain ⟨y383, hy383⟩ : ∃ y_ : List (S58), y_ = (([] : List (S58))) := ⟨_, rfl⟩
 replace H : ((impl_IsFormat.f k l0).bind fun t386 => (if t386 = true then (impl_ReadPrefix.l0 k l0 l1 y383 0 l0 (l0.length : Int) 0) else (some (([] : List (S58)), (-1))))) = some (r1, r2) := by first | (rw [hy383]; with_reducible exact H) | (have H2_ := (Option.bind_some _ _).symm.trans H; rw [hy383]; with_reducible exact H2_) | (have H2_ := (Option.bind_some _ _).symm.trans H; with_reducible exact H2_) | with_reducible exact H | (rw [hy383]; exact H) | exact H
 have Ny383 := Aside0.mk hy383
 clear hy383
 obtain ⟨t386, A3, H⟩ := bindS H
 by_cases c4 : t386 = true
 ·subst c4
  have H1 : (impl_ReadPrefix.l0 k l0 l1 y383 0 l0 (l0.length : Int) 0) = some (r1, r2) := by rw [if_pos rfl] at H; exact H
  clear H
  have H := H1
  clear H1
  have H' := Aside0.mk H
  clear H
  go_enter Try.func29, Try.ntmps29
  go_wp2_with (first | ((with_reducible refine gate_dst (N := 13) rfl ?_); refine Kd.S_lit k58 _ 58 ?hg (N := 13) ?hd (xs := ([] : List (S58))) (inner := []) (ok := fun _ => True) (okp := fun _ => True) ?hr ?hp (fun _ hk => hk) trivial (Below.refl _ _) (Nat.le_refl _) (by simp) ?_; (case hd => rfl); (case hg => rfl); (case hr => first | (go_simp; done) | (go_simp; rfl)); (case hp => exact (Reps.none _ _)); intro v384 w5 ho6 hb hg_ hnew_; clear hg_ hnew_; (first | rw [← Ny383.out] at ho6 | (simp only [Int.reduceToNat] at ho6; rw [← Ny383.out] at ho6)); have HO385 := Aside0.mk (Kd.S_lower ho6 (below_size (zB HB))); replace HB := bS HB hb; clear hb ho6) | ((with_reducible refine gate_callee (f := 17) rfl ?_); refine goesL_ (some 15) rfl rfl Try.func17 (by kernel_rfl) rfl #[.slice A0 l0.length c0] rfl zG ?_; (with_reducible refine (impl_IsFormat.calls k _ _ l0 true _ ?side1 ?side2 A3.out).mono ?_); (case side1 => exact cS HR0 HB); (case side2 => exact HC0.out); rintro e w7 ⟨rfl, hb⟩; refine ⟨_, rfl, ?_⟩; replace HO385 := Aside0.mk (Kd.S_below (zS HO385) hb); replace HB := bS HB hb; (try clear hb)))
  go_loopg [6, 7, 19] k (fun kq v6 v7 v19 w' => ∃ (x6_1 : List (S58)) (x7_1 : Int) (x19_1 : Int), v7 = .int .i64 x7_1 ∧ v19 = .int .i64 x19_1 ∧ Aside0 (impl_ReadPrefix.l0 kq l0 l1 x6_1 x7_1 l0 (l0.length : Int) x19_1 = some (r1, r2)) ∧ Aside0 (kq ≤ k) ∧ Aside0 (Kd.S k58 58 w' w.heap.size (fun _ => True) v6 x6_1) ∧ Aside0 (Below w.heap.size w w'))
  case atStart => exact ⟨(y383), (0), (0), zF, zF, H', ⟨Nat.le_refl _⟩, ⟨zS HO385⟩, ⟨zB HB⟩⟩
  case round =>
   clear H'
   try clear c1
   try clear c2
   try clear p2
   try clear c4
   obtain ⟨x6_1, x7_1, x19_1, rfl, rfl, HA, HK1, HO_6, HB⟩ := hrel
   cases gk with
   | zero => exact absurd HA.out (by simp [impl_ReadPrefix.l0])
   | succ k1 =>
    have H := HA.out
    clear HA
    simp only [impl_ReadPrefix.l0] at H
    by_cases c8 : x19_1 < (l0.length : Int)
    ·rw [if_pos c8] at H
     have c8b0 : decide (x19_1 < (l0.length : Int)) = true := decide_eq_true c8
     clear c8
     obtain ⟨c9, H⟩ := ifS H
     have c9b0 : decide (0 ≤ x19_1) = true := decide_eq_true c9
     clear c9
     obtain ⟨c10, H⟩ := ifS H
     have c10b0 : decide (x19_1 < (l0.length : Int)) = true := decide_eq_true c10
     clear c10
     obtain ⟨t389, A11, H⟩ := bindS H
     by_cases c12 : t389 = true
     ·subst c12
      have H1 : (if 0 ≤ x7_1 then (if x7_1 ≤ (l1.length : Int) then ((impl_readField.f ((rd_T47 l0 x19_1).f0) ((rd_T47 l0 x19_1).f1) ((rd_T47 l0 x19_1).f2) ((rd_T47 l0 x19_1).f3) (l1.drop (x7_1 : Int).toNat)).bind fun bt391 => (if bt391.2.2.2 = true then (if x6_1.length < 4398046511104 then (impl_ReadPrefix.l0 k1 l0 l1 (x6_1 ++ [(⟨bt391.1, bt391.2.1⟩ : S58)]) (wrap64 (x7_1 + bt391.2.2.1)) l0 (l0.length : Int) (wrap64 (x19_1 + 1))) else (none)) else (some (([] : List (S58)), (-1))))) else (none)) else (none)) = some (r1, r2) := by rw [if_pos rfl] at H; exact H
      clear H
      have H := H1
      clear H1
      obtain ⟨c13, H⟩ := ifS H
      have c13b0 := eq_true c13
      have c13b1 : decide (0 ≤ x7_1) = true := decide_eq_true c13
      clear c13
      obtain ⟨c14, H⟩ := ifS H
      have c14b0 := eq_true c14
      have c14b1 : decide (x7_1 ≤ (l1.length : Int)) = true := decide_eq_true c14
      clear c14
      replace H := Option.bind_eq_some_iff.mp H
      obtain ⟨⟨t391, t392, t395, t396⟩, A150, H⟩ := H
      replace H : (if t396 = true then (if x6_1.length < 4398046511104 then (impl_ReadPrefix.l0 k1 l0 l1 (x6_1 ++ [(⟨t391, t392⟩ : S58)]) (wrap64 (x7_1 + t395)) l0 (l0.length : Int) (wrap64 (x19_1 + 1))) else (none)) else (some (([] : List (S58)), (-1)))) = some (r1, r2) := H
      have A15 := Aside0.mk A150
      clear A150
      by_cases c16 : t396 = true
      ·subst c16
       have H1 : (if x6_1.length < 4398046511104 then (impl_ReadPrefix.l0 k1 l0 l1 (x6_1 ++ [(⟨t391, t392⟩ : S58)]) (wrap64 (x7_1 + t395)) l0 (l0.length : Int) (wrap64 (x19_1 + 1))) else (none)) = some (r1, r2) := by rw [if_pos rfl] at H; exact H
       clear H
       have H := H1
       clear H1
       obtain ⟨c17, H⟩ := ifS H
       have LMc17 := Aside0.mk c17
       clear c17
       obtain ⟨y398, hy398⟩ : ∃ y_ : List (S58), y_ = (x6_1 ++ [(⟨t391, t392⟩ : S58)]) := ⟨_, rfl⟩
       replace H : (impl_ReadPrefix.l0 k1 l0 l1 y398 (wrap64 (x7_1 + t395)) l0 (l0.length : Int) (wrap64 (x19_1 + 1))) = some (r1, r2) := by first | (rw [hy398]; with_reducible exact H) | (have H2_ := (Option.bind_some _ _).symm.trans H; rw [hy398]; with_reducible exact H2_) | (have H2_ := (Option.bind_some _ _).symm.trans H; with_reducible exact H2_) | with_reducible exact H | (rw [hy398]; exact H) | exact H
       have Ny398 := Aside0.mk hy398
       clear hy398
       have H' := Aside0.mk H
       clear H
       have p387 : 0 ≤ (x19_1 : Int) := zD
       have q387 : x19_1 < (l0.length : Int) := zD
       obtain ⟨ad387, e387, hx387_0, hx387_1, hx387_2, hx387_3⟩ := at_T47 HR0.out x19_1 p387 q387
       cases e387
       replace hx387_0 := hL HB hx387_0
       replace hx387_1 := hL HB hx387_1
       replace hx387_2 := hL HB hx387_2
       replace hx387_3 := hL HB hx387_3
       replace p387 := eq_true p387
       replace q387 := eq_true q387
       try go_wp2_with (first | ((with_reducible refine gate_dst (N := 9) rfl ?_); refine box_event ?hg (N := 9) ?hd (cs := #[.int .i64 0, .int .i64 0, .int .i64 0, .int .i64 0]) (t := 47) ?hr ?_; (case hd => rfl); (case hg => rfl); (case hr => first | (go_simp; done) | (go_simp; rfl)); intro gb388 hg w18 hbox hb; replace HO_6 := Aside0.mk (Kd.S_below (zS HO_6) hb); have BK388 := Aside0.mk (hbox); have GW388 := gS HB hg; have GE388 := gS HB hg; replace HB := bS HB hb; clear hb hbox hg; have hcz19_0 := bc0 BK388; have hcz19_1 := bc1 BK388; have hcz19_2 := bc2 BK388; have hcz19_3 := bc3 BK388; have hfz19_0 := bf BK388 0; have hfz19_1 := bf BK388 1; have hfz19_2 := bf BK388 2; have hfz19_3 := bf BK388 3; obtain ⟨Ao20, co20, eo20⟩ := Kd.S_slice HO_6.out; subst eo20) | ((with_reducible refine gate_callee (f := 42) rfl ?_); refine goesL_ (some 27) rfl rfl Try.func42 (by kernel_rfl) rfl #[.slice (some ad387) l0.length c0, .slice Ao20 x6_1.length co20, .int .i64 x19_1] rfl zG ?_; (with_reducible refine (impl_IsThere.calls _ _ l0 _ _ x6_1 x19_1 true _ ?side1 ?side2 ?side3 ?side4 A11.out).mono ?_); (case side1 => exact Kd.C_below HR0.out (zB HB)); (case side2 => exact HC0.out); (case side3 => refine (Kd.S_reads' (e := 58) (base := w.heap.size) (ok := fun k_ => True) (n := x6_1.length) (c := co20) ?_).2.2; exact (by (with_reducible repeat (first | apply Kd.S_alloc | apply Kd.S_drewN | apply Kd.S_drew)); exact (Kd.S_mono (Kd.S_far (p := ⟨gb388, 3, none⟩) (Kd.S_far (p := ⟨gb388, 2, none⟩) (Kd.S_far (p := ⟨gb388, 1, none⟩) (Kd.S_far (p := ⟨gb388, 0, none⟩) (Kd.S_types HO_6.out BK388.out (by decide)) (fun _ hk => hk.2) (.int .i64 ((rd_T47 l0 x19_1).f0))) (fun _ hk => hk.2) (.int .i64 ((rd_T47 l0 x19_1).f1))) (fun _ hk => hk.2) (.int .i64 ((rd_T47 l0 x19_1).f2))) (fun _ hk => hk.2) (.int .i64 ((rd_T47 l0 x19_1).f3))) (fun _ h_ => h_.1)))); (case side4 => exact (Kd.S_reads' HO_6.out).2.1); rintro e w21 ⟨rfl, hb⟩; refine ⟨_, rfl, ?_⟩; replace HO_6 := Aside0.mk (Kd.S_below (by (with_reducible repeat (first | apply Kd.S_alloc | apply Kd.S_drewN | apply Kd.S_drew)); exact (Kd.S_mono (Kd.S_far (p := ⟨gb388, 3, none⟩) (Kd.S_far (p := ⟨gb388, 2, none⟩) (Kd.S_far (p := ⟨gb388, 1, none⟩) (Kd.S_far (p := ⟨gb388, 0, none⟩) (Kd.S_types HO_6.out BK388.out (by decide)) (fun _ hk => hk.2) (.int .i64 ((rd_T47 l0 x19_1).f0))) (fun _ hk => hk.2) (.int .i64 ((rd_T47 l0 x19_1).f1))) (fun _ hk => hk.2) (.int .i64 ((rd_T47 l0 x19_1).f2))) (fun _ hk => hk.2) (.int .i64 ((rd_T47 l0 x19_1).f3))) (fun _ h_ => h_.1))) hb); replace BK388 := Aside0.mk (blk_below (g := gb388) (o := .cells #[.int .i64 ((rd_T47 l0 x19_1).f0), .int .i64 ((rd_T47 l0 x19_1).f1), .int .i64 ((rd_T47 l0 x19_1).f2), .int .i64 ((rd_T47 l0 x19_1).f3)] 47 (0, 0)) (by (with_reducible repeat (first | refine blk_drewN ?_ _ | refine blk_drew ?_ | refine blk_alloc ?_ _)); refine blk_put (cs := #[.int .i64 ((rd_T47 l0 x19_1).f0), .int .i64 ((rd_T47 l0 x19_1).f1), .int .i64 ((rd_T47 l0 x19_1).f2), .int .i64 0]) ?_ 3 _ rfl; (with_reducible repeat (first | refine blk_drewN ?_ _ | refine blk_drew ?_ | refine blk_alloc ?_ _)); refine blk_put (cs := #[.int .i64 ((rd_T47 l0 x19_1).f0), .int .i64 ((rd_T47 l0 x19_1).f1), .int .i64 0, .int .i64 0]) ?_ 2 _ rfl; (with_reducible repeat (first | refine blk_drewN ?_ _ | refine blk_drew ?_ | refine blk_alloc ?_ _)); refine blk_put (cs := #[.int .i64 ((rd_T47 l0 x19_1).f0), .int .i64 0, .int .i64 0, .int .i64 0]) ?_ 1 _ rfl; (with_reducible repeat (first | refine blk_drewN ?_ _ | refine blk_drew ?_ | refine blk_alloc ?_ _)); refine blk_put (cs := #[.int .i64 0, .int .i64 0, .int .i64 0, .int .i64 0]) ?_ 0 _ rfl; (with_reducible repeat (first | refine blk_drewN ?_ _ | refine blk_drew ?_ | refine blk_alloc ?_ _)); exact BK388.out) hb); replace HB := bS HB hb; (try clear hb)))
       replace HO_6 := Aside0.mk (Kd.S_drew HO_6.out)
       replace BK388 := Aside0.mk (blk_drew BK388.out)
       replace HB := Aside0.mk (below_drew1 HB.out)
       obtain ⟨i023, hi023, _, hsz23, _⟩ := info_parts info3
       obtain ⟨A23, hcut23, hA23, hC23⟩ := print_drop_of (P := Try.prog) (Value.int .i64) 0 37 3 .i64 Try.underlying37 hi023 hsz23 A1 c1 l1 x7_1 (zD) (zD) HC1.out
       have HR390 := Aside0.mk (Kd.C_of_reads (h1 := fun _ => rfl) (hA23 _ (Kd.reads_of_C HR1.out)))
       have HC390 := Aside0.mk hC23
       clear hA23 hC23 hi023 hsz23
       refine start_ (n := 13) (S := fun w' => w'.cell? ⟨gb388, 0, none⟩ = some (.int .i64 ((rd_T47 l0 x19_1).f0)) ∧ w'.cell? ⟨gb388, 1, none⟩ = some (.int .i64 ((rd_T47 l0 x19_1).f1)) ∧ w'.cell? ⟨gb388, 2, none⟩ = some (.int .i64 ((rd_T47 l0 x19_1).f2)) ∧ w'.cell? ⟨gb388, 3, none⟩ = some (.int .i64 ((rd_T47 l0 x19_1).f3))) (ds := []) (bm 13 0) (by kernel_rfl) rfl (bm0 _) ⟨bc0 BK388, bc1 BK388, bc2 BK388, bc3 BK388⟩ (fun hHeld => ?_); refine with_tabW impl_ReadPrefix.tab9 impl_ReadPrefix.bits9 (fun HT_ HW_ => ?_)
       generalize w21.drew = w22 at HO_6 BK388 HB HR390 hHeld ⊢
       refine pU 1 (some 35) (bm 13 2) HT_ rfl rfl ?_
       refine pU 2 (some 36) (bm 13 6) HT_ rfl rfl ?_
       refine pU 3 (some 37) (bm 13 14) HT_ rfl rfl ?_
       refine tU 0 (some 34) (bm 13 15) HT_ HW_ rfl rfl hHeld ?_
       refine join_ (σ := Value × Nat) 3 (bm 13 1023) (fun s_ => [(38, .tuple #[.agg #[.int .i64 t391, s_.1], .int .i64 t395, .bool true]), (10, .pointer (some ⟨s_.2, 0, none⟩)), (33, .tuple #[.agg #[.int .i64 t391, s_.1], .int .i64 t395, .bool true]), (39, .agg #[.int .i64 t391, s_.1]), (40, .int .i64 t395), (41, .bool true)]) (fun s_ w' => (w'.cell? ⟨gb388, 0, none⟩ = some (.int .i64 ((rd_T47 l0 x19_1).f0)) ∧ w'.cell? ⟨gb388, 1, none⟩ = some (.int .i64 ((rd_T47 l0 x19_1).f1)) ∧ w'.cell? ⟨gb388, 2, none⟩ = some (.int .i64 ((rd_T47 l0 x19_1).f2)) ∧ w'.cell? ⟨gb388, 3, none⟩ = some (.int .i64 ((rd_T47 l0 x19_1).f3))) ∧ (Kd.R (Kd.int .i64) 3 w' w.heap.size (fun _ => True) s_.1 t392) ∧ (Kd.S k58 58 w' w.heap.size (fun k_ => some k_ ≠ (s_.1 : Value).ownBlock ∧ k_ ≠ s_.2) (.slice Ao20 x6_1.length co20) x6_1) ∧ (w'.heap[gb388]? = some (.cells #[.int .i64 ((rd_T47 l0 x19_1).f0), .int .i64 ((rd_T47 l0 x19_1).f1), .int .i64 ((rd_T47 l0 x19_1).f2), .int .i64 ((rd_T47 l0 x19_1).f3)] 47 (0, 0))) ∧ (w'.heap[s_.2]? = some (.cells #[.int .i64 0, .slice none 0 0] 58 (0, 0))) ∧ (w.heap.size ≤ s_.2) ∧ (w.heap.size ≤ s_.2) ∧ (gb388 ≠ s_.2) ∧ (s_.2 ≠ gb388) ∧ (Below w.heap.size w w')) ?_ ?_
       rotate_left
       ·intro hCont
        refine two_ (i := 4) (j := 9) (Ni := some 38) (Nj := some 10) (bm 13 31) (bm 13 527) rfl rfl rfl rfl (two_of HT_.out (by kernel_rfl)) (by decide) (by decide) (fun K hK => ?_) (fun K hK => ?_)
        ·skip
         refine goes_ Try.func48 (by kernel_rfl) rfl #[.agg #[.int .i64 ((rd_T47 l0 x19_1).f0), .int .i64 ((rd_T47 l0 x19_1).f1), .int .i64 ((rd_T47 l0 x19_1).f2), .int .i64 ((rd_T47 l0 x19_1).f3)], .slice A23 (l1.drop (x7_1 : Int).toNat).length (c1 - x7_1.toNat)] (by rfl) rfl rfl (by (try simp only [List.map_toArray, List.map_cons, List.map_nil]); first | done | (rw [show (l1.drop (x7_1 : Int).toNat).length = (l1.length - x7_1.toNat) from List.length_drop] <;> rfl) | rfl | (simp only [List.length_drop, List.length_take]; rfl)) ?_
         with_reducible refine (impl_readField.calls ((rd_T47 l0 x19_1).f0) ((rd_T47 l0 x19_1).f1) ((rd_T47 l0 x19_1).f2) ((rd_T47 l0 x19_1).f3) _ _ (l1.drop (x7_1 : Int).toNat) t391 t392 t395 true _ ?side1 ?side2 A15.out).mono ?_
         (case side1 => exact cS HR390 HB)
         (case side2 => exact HC390.out)
         rintro e w24 ⟨v393, rfl, ho0, hb⟩
         refine ⟨_, rfl, ?_⟩
         replace HO_6 := Aside0.mk (Kd.S_elder' (zS HO_6) (Kd.R_base ho0) hb)
         have HO394 := Aside0.mk (Kd.R_lower ho0 (below_size (zB HB)))
         replace BK388 := kB BK388 hb
         replace HB := bS HB hb
         (try clear hb)
         (try clear hb2)
         (try clear hk)
         (try clear hi)
         (try clear ho0)
         refine hK.out _ _ ⟨bc0 BK388, bc1 BK388, bc2 BK388, bc3 BK388⟩ (fun hHeld => ?_)
         clear hK K
         refine norm_ (a' := ?_) ?_ ?_
         rotate_left
         ·show Act.put _ (some 38) _ = _
          simp only [Act.put, List.setIfInBounds_toArray, List.set_cons_zero, List.set_cons_succ, i64_w, i32_w]
          rfl
         refine pU 5 (some 33) (bm 13 63) HT_ rfl rfl ?_
         refine pU 6 (some 39) (bm 13 127) HT_ rfl rfl ?_
         refine pU 7 (some 40) (bm 13 255) HT_ rfl rfl ?_
         refine pU 8 (some 41) (bm 13 511) HT_ rfl rfl ?_
         refine one_ (i := 9) (N := some 10) (bm 13 1023) rfl rfl (one_of HT_.out (by kernel_rfl)) (by decide) (fun K hK => ?_)
         refine box_step ?hg (N := 10) ?hd (cs := #[.int .i64 0, .slice none 0 0]) (t := 58) ?hr ?_; (case hd => rfl); (case hg => rfl); (case hr => first | (go_simp; done) | (go_simp; rfl))
         intro gb397 hg w25 hbox hb
         replace HO_6 := Aside0.mk (Kd.S_below (Kd.S_elderB (zS HO_6) gb397 (Nat.le_of_eq hg.symm)) hb)
         replace HO394 := Aside0.mk (Kd.R_below (zR HO394) hb)
         have BK397 := Aside0.mk (hbox)
         have GW397 := gS HB hg
         have GE397 := gS HB hg
         replace HB := bS HB hb
         have NB388_397 := nL BK388 hg
         have NB397_388 := nR BK388 hg
         replace BK388 := kB BK388 hb
         clear hb hbox hg
         refine hK.out _ _ ⟨bc0 BK388, bc1 BK388, bc2 BK388, bc3 BK388⟩ (fun hHeld => ?_)
         clear hK K
         refine norm_ (a' := ?_) ?_ ?_
         rotate_left
         ·show Act.put _ (some 10) _ = _
          simp only [Act.put, List.setIfInBounds_toArray, List.set_cons_zero, List.set_cons_succ, i64_w, i32_w]
          rfl
         exact norm_ (by simp only [putAll, Act.put, List.setIfInBounds_toArray, List.set_cons_zero, List.set_cons_succ]) (hCont (v393, gb397) _ ⟨hHeld, (zR HO394), (by (with_reducible repeat (first | apply Kd.S_alloc | apply Kd.S_drewN | apply Kd.S_drew)); exact Kd.S_mono HO_6.out (fun _ hk => ⟨hk.1.2, hk.2⟩)), (zK BK388), (zK BK397), GW397.out, GE397.out, NB388_397.out, NB397_388.out, (zB HB)⟩)
        ·skip
         refine box_step ?hg (N := 10) ?hd (cs := #[.int .i64 0, .slice none 0 0]) (t := 58) ?hr ?_; (case hd => rfl); (case hg => rfl); (case hr => first | (go_simp; done) | (go_simp; rfl))
         intro gb397 hg w24 hbox hb
         replace HO_6 := Aside0.mk (Kd.S_below (Kd.S_elderB (zS HO_6) gb397 (Nat.le_of_eq hg.symm)) hb)
         have BK397 := Aside0.mk (hbox)
         have GW397 := gS HB hg
         have GE397 := gS HB hg
         replace HB := bS HB hb
         have NB388_397 := nL BK388 hg
         have NB397_388 := nR BK388 hg
         replace BK388 := kB BK388 hb
         clear hb hbox hg
         refine hK.out _ _ ⟨bc0 BK388, bc1 BK388, bc2 BK388, bc3 BK388⟩ (fun hHeld => ?_)
         clear hK K
         refine norm_ (a' := ?_) ?_ ?_
         rotate_left
         ·show Act.put _ (some 10) _ = _
          simp only [Act.put, List.setIfInBounds_toArray, List.set_cons_zero, List.set_cons_succ, i64_w, i32_w]
          rfl
         refine one_ (i := 4) (N := some 38) (bm 13 543) rfl rfl (one_of HT_.out (by kernel_rfl)) (by decide) (fun K hK => ?_)
         refine goes_ Try.func48 (by kernel_rfl) rfl #[.agg #[.int .i64 ((rd_T47 l0 x19_1).f0), .int .i64 ((rd_T47 l0 x19_1).f1), .int .i64 ((rd_T47 l0 x19_1).f2), .int .i64 ((rd_T47 l0 x19_1).f3)], .slice A23 (l1.drop (x7_1 : Int).toNat).length (c1 - x7_1.toNat)] (by rfl) rfl rfl (by (try simp only [List.map_toArray, List.map_cons, List.map_nil]); first | done | (rw [show (l1.drop (x7_1 : Int).toNat).length = (l1.length - x7_1.toNat) from List.length_drop] <;> rfl) | rfl | (simp only [List.length_drop, List.length_take]; rfl)) ?_
         with_reducible refine (impl_readField.calls ((rd_T47 l0 x19_1).f0) ((rd_T47 l0 x19_1).f1) ((rd_T47 l0 x19_1).f2) ((rd_T47 l0 x19_1).f3) _ _ (l1.drop (x7_1 : Int).toNat) t391 t392 t395 true _ ?side1 ?side2 A15.out).mono ?_
         (case side1 => exact cS HR390 HB)
         (case side2 => exact HC390.out)
         rintro e w25 ⟨v393, rfl, ho0, hb⟩
         refine ⟨_, rfl, ?_⟩
         replace HO_6 := Aside0.mk (Kd.S_elder' (zS HO_6) (Kd.R_base ho0) hb)
         have HO394 := Aside0.mk (Kd.R_lower ho0 (below_size (zB HB)))
         replace BK388 := kB BK388 hb
         replace BK397 := kB BK397 hb
         replace HB := bS HB hb
         (try clear hb)
         (try clear hb2)
         (try clear hk)
         (try clear hi)
         (try clear ho0)
         refine hK.out _ _ ⟨bc0 BK388, bc1 BK388, bc2 BK388, bc3 BK388⟩ (fun hHeld => ?_)
         clear hK K
         refine norm_ (a' := ?_) ?_ ?_
         rotate_left
         ·show Act.put _ (some 38) _ = _
          simp only [Act.put, List.setIfInBounds_toArray, List.set_cons_zero, List.set_cons_succ, i64_w, i32_w]
          rfl
         refine pU 5 (some 33) (bm 13 575) HT_ rfl rfl ?_
         refine pU 6 (some 39) (bm 13 639) HT_ rfl rfl ?_
         refine pU 7 (some 40) (bm 13 767) HT_ rfl rfl ?_
         refine pU 8 (some 41) (bm 13 1023) HT_ rfl rfl ?_
         exact norm_ (by simp only [putAll, Act.put, List.setIfInBounds_toArray, List.set_cons_zero, List.set_cons_succ]) (hCont (v393, gb397) _ ⟨hHeld, (zR HO394), (by (with_reducible repeat (first | apply Kd.S_alloc | apply Kd.S_drewN | apply Kd.S_drew)); exact Kd.S_mono HO_6.out (fun _ hk => ⟨hk.2, hk.1.2⟩)), (zK BK388), (zK BK397), GW397.out, GE397.out, NB388_397.out, NB397_388.out, (zB HB)⟩)
       rintro ⟨v393, gb397⟩ w26 ⟨hS_, h0_, h1_, h2_, h3_, h4_, h5_, h6_, h7_, h8_⟩
       have HO394 : Aside0 (Kd.R (Kd.int .i64) 3 w26 w.heap.size (fun _ => True) v393 t392) := ⟨h0_⟩
       replace HO_6 : Aside0 (Kd.S k58 58 w26 w.heap.size (fun k_ => some k_ ≠ (v393 : Value).ownBlock ∧ k_ ≠ gb397) (.slice Ao20 x6_1.length co20) x6_1) := ⟨h1_⟩
       replace BK388 : Aside0 (w26.heap[gb388]? = some (.cells #[.int .i64 ((rd_T47 l0 x19_1).f0), .int .i64 ((rd_T47 l0 x19_1).f1), .int .i64 ((rd_T47 l0 x19_1).f2), .int .i64 ((rd_T47 l0 x19_1).f3)] 47 (0, 0))) := ⟨h2_⟩
       have BK397 : Aside0 (w26.heap[gb397]? = some (.cells #[.int .i64 0, .slice none 0 0] 58 (0, 0))) := ⟨h3_⟩
       have GW397 : Aside0 (w.heap.size ≤ gb397) := ⟨h4_⟩
       have GE397 : Aside0 (w.heap.size ≤ gb397) := ⟨h5_⟩
       have NB388_397 : Aside0 (gb388 ≠ gb397) := ⟨h6_⟩
       have NB397_388 : Aside0 (gb397 ≠ gb388) := ⟨h7_⟩
       replace HB : Aside0 (Below w.heap.size w w26) := ⟨h8_⟩
       clear h0_ h1_ h2_ h3_ h4_ h5_ h6_ h7_ h8_
       have hHeld : w26.cell? ⟨gb388, 0, none⟩ = some (.int .i64 ((rd_T47 l0 x19_1).f0)) ∧ w26.cell? ⟨gb388, 1, none⟩ = some (.int .i64 ((rd_T47 l0 x19_1).f1)) ∧ w26.cell? ⟨gb388, 2, none⟩ = some (.int .i64 ((rd_T47 l0 x19_1).f2)) ∧ w26.cell? ⟨gb388, 3, none⟩ = some (.int .i64 ((rd_T47 l0 x19_1).f3)) := hS_
       obtain ⟨Ao28, co28, eo28⟩ := Kd.R_slice HO394.out
       (first | subst eo28 | (injection eo28 with f1_ f2_ f3_; have f4_ := f1_.symm; have f5_ := f3_.symm; clear f1_ f2_ f3_; subst f4_; subst f5_))
       refine norm_ (a' := ?_) ?_ ?_
       rotate_left
       ·simp only [putAll, Act.put, List.setIfInBounds_toArray, List.set_cons_zero, List.set_cons_succ]
        rfl
       refine one_ (i := 10) (N := none) (bm 13 2047) rfl rfl (one_of HT_.out (by kernel_rfl)) (by decide) (fun K hK => ?_)
       have hs27 : w26.cell? ⟨gb397, 0, none⟩ = some (.int .i64 0) := bc0 BK397
       have hfs27 := bf BK397 0
       have hns27_0 := NB388_397.out
       have hms27_0 := NB397_388.out
       have hs29 : w26.cell? ⟨gb397, 1, none⟩ = some (.slice none 0 0) := bc1 BK397
       have hfs29 := bf BK397 1
       have hns29_0 := NB388_397.out
       have hms29_0 := NB397_388.out
       refine skip_ (w1 := ?_) (by rfl) rfl ?_ ?_
       rotate_left
       ·go_simp
        rfl
       refine hK.out _ _ ⟨((cell_far (p := ⟨gb397, _, none⟩) NB388_397.out _).trans (((cell_far (p := ⟨gb397, _, none⟩) NB388_397.out _).trans (hHeld.1)))), ((cell_far (p := ⟨gb397, _, none⟩) NB388_397.out _).trans (((cell_far (p := ⟨gb397, _, none⟩) NB388_397.out _).trans (hHeld.2.1)))), ((cell_far (p := ⟨gb397, _, none⟩) NB388_397.out _).trans (((cell_far (p := ⟨gb397, _, none⟩) NB388_397.out _).trans (hHeld.2.2.1)))), ((cell_far (p := ⟨gb397, _, none⟩) NB388_397.out _).trans (((cell_far (p := ⟨gb397, _, none⟩) NB388_397.out _).trans (hHeld.2.2.2))))⟩ (fun hHeld => ?_)
       clear hK K
       refine pU 11 (some 11) (bm 13 4095) HT_ rfl rfl ?_
       refine pU 12 (some 12) (bm 13 8191) HT_ rfl rfl ?_
       refine done_ (done_of HT_.out (by kernel_rfl)) ?_
       try clear hHeld
       have n0_ : Aside0 (Kd.S k58 58 ((w26.setCell ⟨gb397, 0, none⟩ (.int .i64 t391)).setCell ⟨gb397, 1, none⟩ (.slice Ao28 t392.length co28)) w.heap.size (fun k_ => some k_ ≠ (.slice Ao28 t392.length co28 : Value).ownBlock ∧ k_ ≠ gb397) (.slice Ao20 x6_1.length co20) x6_1) := ⟨by (with_reducible repeat (first | apply Kd.S_alloc | apply Kd.S_drewN | apply Kd.S_drew)); exact Kd.S_mono (Kd.S_far (p := ⟨gb397, 1, none⟩) (Kd.S_far (p := ⟨gb397, 0, none⟩) (Kd.S_mono HO_6.out (fun k_ hk => (⟨hk, hk.2⟩ : _ ∧ k_ ≠ gb397))) (fun _ hk => hk.2) (.int .i64 t391)) (fun _ hk => hk.2) (.slice Ao28 t392.length co28)) (fun _ hk => ⟨hk.1.1, hk.1.2⟩)⟩
       have n1_ : Aside0 (Kd.R (Kd.int .i64) 3 ((w26.setCell ⟨gb397, 0, none⟩ (.int .i64 t391)).setCell ⟨gb397, 1, none⟩ (.slice Ao28 t392.length co28)) w.heap.size (fun _ => True) (.slice Ao28 t392.length co28) t392) := ⟨by (with_reducible repeat (first | apply Kd.R_alloc | apply Kd.R_drewN | apply Kd.R_drew)); exact Kd.R_mono (Kd.R_far (p := ⟨gb397, 1, none⟩) (Kd.R_far (p := ⟨gb397, 0, none⟩) (Kd.R_types HO394.out BK397.out (by decide)) (fun _ hk => hk.2) (.int .i64 t391)) (fun _ hk => hk.2) (.slice Ao28 t392.length co28)) (fun _ hk => trivial)⟩
       have n2_ : Aside0 (((w26.setCell ⟨gb397, 0, none⟩ (.int .i64 t391)).setCell ⟨gb397, 1, none⟩ (.slice Ao28 t392.length co28)).heap[gb388]? = some (.cells #[.int .i64 ((rd_T47 l0 x19_1).f0), .int .i64 ((rd_T47 l0 x19_1).f1), .int .i64 ((rd_T47 l0 x19_1).f2), .int .i64 ((rd_T47 l0 x19_1).f3)] 47 (0, 0))) := ⟨by (with_reducible repeat (first | refine blk_drewN ?_ _ | refine blk_drew ?_ | refine blk_alloc ?_ _)); refine blk_far ?_ NB388_397.out _; (with_reducible repeat (first | refine blk_drewN ?_ _ | refine blk_drew ?_ | refine blk_alloc ?_ _)); refine blk_far ?_ NB388_397.out _; (with_reducible repeat (first | refine blk_drewN ?_ _ | refine blk_drew ?_ | refine blk_alloc ?_ _)); exact BK388.out⟩
       have n3_ : Aside0 (((w26.setCell ⟨gb397, 0, none⟩ (.int .i64 t391)).setCell ⟨gb397, 1, none⟩ (.slice Ao28 t392.length co28)).heap[gb397]? = some (.cells #[.int .i64 t391, .slice Ao28 t392.length co28] 58 (0, 0))) := ⟨by (with_reducible repeat (first | refine blk_drewN ?_ _ | refine blk_drew ?_ | refine blk_alloc ?_ _)); refine blk_put (cs := #[.int .i64 t391, .slice none 0 0]) ?_ 1 _ rfl; (with_reducible repeat (first | refine blk_drewN ?_ _ | refine blk_drew ?_ | refine blk_alloc ?_ _)); refine blk_put (cs := #[.int .i64 0, .slice none 0 0]) ?_ 0 _ rfl; (with_reducible repeat (first | refine blk_drewN ?_ _ | refine blk_drew ?_ | refine blk_alloc ?_ _)); exact BK397.out⟩
       have n4_ : Aside0 (Below w.heap.size w ((w26.setCell ⟨gb397, 0, none⟩ (.int .i64 t391)).setCell ⟨gb397, 1, none⟩ (.slice Ao28 t392.length co28))) := ⟨zB HB⟩
       (try clear HO_6)
       (try clear HO394)
       (try clear BK388)
       (try clear BK397)
       (try clear HB)
       generalize ((w26.setCell ⟨gb397, 0, none⟩ (.int .i64 t391)).setCell ⟨gb397, 1, none⟩ (.slice Ao28 t392.length co28)) = w30 at n0_ n1_ n2_ n3_ n4_ ⊢
       have HO_6 := n0_
       have HO394 := n1_
       have BK388 := n2_
       have BK397 := n3_
       have HB := n4_
       clear n0_ n1_ n2_ n3_ n4_
       have hnb31 := NB397_388.out
       have hnc31 := NB388_397.out
       have hcz32_0 := bc0 BK397
       have hcz32_1 := bc1 BK397
       have hfz32_0 := bf BK397 0
       have hfz32_1 := bf BK397 1
       try go_wp2_with (first | ((with_reducible refine gate_builtin (b := .append) (xs := #[.tmp 44, .tmp 46]) rfl ?_); at_builtin; refine Kd.S_append k58 (w0 := w) w.heap.size rfl (.tmp 44) (.tmp 46) 39 58 (.agg #[(.int .i64 0), (.slice none 0 0)]) 32 rfl Try.underlying39 info58 rfl (by decide) (by omega) (.slice Ao20 x6_1.length co20) x6_1 (⟨t391, t392⟩ : S58) [.int .i64 t391, .slice Ao28 t392.length co28] (fun k_ => k_ ≠ gb397) (fun k_ => some k_ = (.slice Ao28 t392.length co28 : Value).ownBlock) rfl rfl ?aP (fun k_ hk_ => ((Kd.R_mono (ok' := fun k_ => ((fun k_ => k_ ≠ gb397)) k_ ∧ some k_ ≠ (.slice Ao20 x6_1.length co20 : Value).ownBlock) (Kd.R_types (Kd.R_apart' (HO394.out) (Kd.S_typed HO_6.out) (by decide)) BK397.out (by decide)) (fun k_ hk => ⟨hk.2, hk.1.2⟩))).1 k_ hk_.symm) ?aF ?aO ?aB ?aS ?aL ?_; (case aP => exact k58_mkM _ _ _ (⟨t391, t392⟩ : S58) (Kd.R_mono (Kd.R_tight rfl (Kd.R_mono (ok' := fun k_ => ((fun k_ => k_ ≠ gb397)) k_ ∧ some k_ ≠ (.slice Ao20 x6_1.length co20 : Value).ownBlock) (Kd.R_types (Kd.R_apart' (HO394.out) (Kd.S_typed HO_6.out) (by decide)) BK397.out (by decide)) (fun k_ hk => ⟨hk.2, hk.1.2⟩))) (fun _ h_ => h_))); (case aB => exact (zB HB)); (case aF => exact (fun k_ hk => Kd.freshB (g := gb397) (o := .cells #[.int .i64 t391, .slice Ao28 t392.length co28] 58 (0, 0)) (zK BK397) k_ hk)); (case aO => exact (by (with_reducible repeat (first | apply Kd.S_alloc | apply Kd.S_drewN | apply Kd.S_drew)); exact Kd.S_mono HO_6.out (fun k_ hk => ⟨hk.2, fun e_ => hk.1 e_⟩))); (case aS => exact (below_size (zB HB))); (case aL => have := LMc17.out; omega); intro v399 w33 ho hb hg hat; rw [← Ny398.out] at ho; replace BK388 := Aside0.mk (blk_grown (g := gb388) (o := .cells #[.int .i64 ((rd_T47 l0 x19_1).f0), .int .i64 ((rd_T47 l0 x19_1).f1), .int .i64 ((rd_T47 l0 x19_1).f2), .int .i64 ((rd_T47 l0 x19_1).f3)] 47 (0, 0)) (zK BK388) hg (Kd.S_ne HO_6.out BK388.out (by decide))); replace BK397 := Aside0.mk (blk_grown (g := gb397) (o := .cells #[.int .i64 t391, .slice Ao28 t392.length co28] 58 (0, 0)) (zK BK397) hg (Kd.S_away HO_6.out (fun _ hk => hk.2))); replace HB := Aside0.mk (hb); have HO400 := Aside0.mk (ho); clear HO_6 HO394; clear ho hb hg hat))
       go_roundg k1
       case measure => have := HK1.out; omega
       case rel => exact ⟨(y398), (wrap64 (x7_1 + t395)), (wrap64 (x19_1 + 1)), zF, zF, H', ⟨by have := HK1.out; omega⟩, ⟨by (with_reducible repeat (first | apply Kd.S_alloc | apply Kd.S_drewN | apply Kd.S_drew)); exact Kd.S_mono HO400.out (fun _ hk => trivial)⟩, ⟨zB HB⟩⟩
      ·replace c16 := Bool.eq_false_iff.mpr c16
       subst c16
       have H1 : (some (([] : List (S58)), (-1))) = some (r1, r2) := by rw [if_neg (show ¬ (false = true) by decide)] at H; exact H
       clear H
       have H := H1
       clear H1
       simp only [Option.some.injEq, Prod.mk.injEq] at H
       obtain ⟨rfl, rfl⟩ := H
       have p387 : 0 ≤ (x19_1 : Int) := zD
       have q387 : x19_1 < (l0.length : Int) := zD
       obtain ⟨ad387, e387, hx387_0, hx387_1, hx387_2, hx387_3⟩ := at_T47 HR0.out x19_1 p387 q387
       cases e387
       replace hx387_0 := hL HB hx387_0
       replace hx387_1 := hL HB hx387_1
       replace hx387_2 := hL HB hx387_2
       replace hx387_3 := hL HB hx387_3
       replace p387 := eq_true p387
       replace q387 := eq_true q387
       try go_wp2_with (first | ((with_reducible refine gate_dst (N := 9) rfl ?_); refine box_event ?hg (N := 9) ?hd (cs := #[.int .i64 0, .int .i64 0, .int .i64 0, .int .i64 0]) (t := 47) ?hr ?_; (case hd => rfl); (case hg => rfl); (case hr => first | (go_simp; done) | (go_simp; rfl)); intro gb388 hg w34 hbox hb; replace HO_6 := Aside0.mk (Kd.S_below (zS HO_6) hb); have BK388 := Aside0.mk (hbox); have GW388 := gS HB hg; have GE388 := gS HB hg; replace HB := bS HB hb; clear hb hbox hg; have hcz35_0 := bc0 BK388; have hcz35_1 := bc1 BK388; have hcz35_2 := bc2 BK388; have hcz35_3 := bc3 BK388; have hfz35_0 := bf BK388 0; have hfz35_1 := bf BK388 1; have hfz35_2 := bf BK388 2; have hfz35_3 := bf BK388 3; obtain ⟨Ao36, co36, eo36⟩ := Kd.S_slice HO_6.out; subst eo36) | ((with_reducible refine gate_callee (f := 42) rfl ?_); refine goesL_ (some 27) rfl rfl Try.func42 (by kernel_rfl) rfl #[.slice (some ad387) l0.length c0, .slice Ao36 x6_1.length co36, .int .i64 x19_1] rfl zG ?_; (with_reducible refine (impl_IsThere.calls _ _ l0 _ _ x6_1 x19_1 true _ ?side1 ?side2 ?side3 ?side4 A11.out).mono ?_); (case side1 => exact Kd.C_below HR0.out (zB HB)); (case side2 => exact HC0.out); (case side3 => refine (Kd.S_reads' (e := 58) (base := w.heap.size) (ok := fun k_ => True) (n := x6_1.length) (c := co36) ?_).2.2; exact (by (with_reducible repeat (first | apply Kd.S_alloc | apply Kd.S_drewN | apply Kd.S_drew)); exact (Kd.S_mono (Kd.S_far (p := ⟨gb388, 3, none⟩) (Kd.S_far (p := ⟨gb388, 2, none⟩) (Kd.S_far (p := ⟨gb388, 1, none⟩) (Kd.S_far (p := ⟨gb388, 0, none⟩) (Kd.S_types HO_6.out BK388.out (by decide)) (fun _ hk => hk.2) (.int .i64 ((rd_T47 l0 x19_1).f0))) (fun _ hk => hk.2) (.int .i64 ((rd_T47 l0 x19_1).f1))) (fun _ hk => hk.2) (.int .i64 ((rd_T47 l0 x19_1).f2))) (fun _ hk => hk.2) (.int .i64 ((rd_T47 l0 x19_1).f3))) (fun _ h_ => h_.1)))); (case side4 => exact (Kd.S_reads' HO_6.out).2.1); rintro e w37 ⟨rfl, hb⟩; refine ⟨_, rfl, ?_⟩; replace HO_6 := Aside0.mk (Kd.S_below (by (with_reducible repeat (first | apply Kd.S_alloc | apply Kd.S_drewN | apply Kd.S_drew)); exact (Kd.S_mono (Kd.S_far (p := ⟨gb388, 3, none⟩) (Kd.S_far (p := ⟨gb388, 2, none⟩) (Kd.S_far (p := ⟨gb388, 1, none⟩) (Kd.S_far (p := ⟨gb388, 0, none⟩) (Kd.S_types HO_6.out BK388.out (by decide)) (fun _ hk => hk.2) (.int .i64 ((rd_T47 l0 x19_1).f0))) (fun _ hk => hk.2) (.int .i64 ((rd_T47 l0 x19_1).f1))) (fun _ hk => hk.2) (.int .i64 ((rd_T47 l0 x19_1).f2))) (fun _ hk => hk.2) (.int .i64 ((rd_T47 l0 x19_1).f3))) (fun _ h_ => h_.1))) hb); replace BK388 := Aside0.mk (blk_below (g := gb388) (o := .cells #[.int .i64 ((rd_T47 l0 x19_1).f0), .int .i64 ((rd_T47 l0 x19_1).f1), .int .i64 ((rd_T47 l0 x19_1).f2), .int .i64 ((rd_T47 l0 x19_1).f3)] 47 (0, 0)) (by (with_reducible repeat (first | refine blk_drewN ?_ _ | refine blk_drew ?_ | refine blk_alloc ?_ _)); refine blk_put (cs := #[.int .i64 ((rd_T47 l0 x19_1).f0), .int .i64 ((rd_T47 l0 x19_1).f1), .int .i64 ((rd_T47 l0 x19_1).f2), .int .i64 0]) ?_ 3 _ rfl; (with_reducible repeat (first | refine blk_drewN ?_ _ | refine blk_drew ?_ | refine blk_alloc ?_ _)); refine blk_put (cs := #[.int .i64 ((rd_T47 l0 x19_1).f0), .int .i64 ((rd_T47 l0 x19_1).f1), .int .i64 0, .int .i64 0]) ?_ 2 _ rfl; (with_reducible repeat (first | refine blk_drewN ?_ _ | refine blk_drew ?_ | refine blk_alloc ?_ _)); refine blk_put (cs := #[.int .i64 ((rd_T47 l0 x19_1).f0), .int .i64 0, .int .i64 0, .int .i64 0]) ?_ 1 _ rfl; (with_reducible repeat (first | refine blk_drewN ?_ _ | refine blk_drew ?_ | refine blk_alloc ?_ _)); refine blk_put (cs := #[.int .i64 0, .int .i64 0, .int .i64 0, .int .i64 0]) ?_ 0 _ rfl; (with_reducible repeat (first | refine blk_drewN ?_ _ | refine blk_drew ?_ | refine blk_alloc ?_ _)); exact BK388.out) hb); replace HB := bS HB hb; (try clear hb)))
       replace HO_6 := Aside0.mk (Kd.S_drew HO_6.out)
       replace BK388 := Aside0.mk (blk_drew BK388.out)
       replace HB := Aside0.mk (below_drew1 HB.out)
       obtain ⟨i039, hi039, _, hsz39, _⟩ := info_parts info3
       obtain ⟨A39, hcut39, hA39, hC39⟩ := print_drop_of (P := Try.prog) (Value.int .i64) 0 37 3 .i64 Try.underlying37 hi039 hsz39 A1 c1 l1 x7_1 (zD) (zD) HC1.out
       have HR390 := Aside0.mk (Kd.C_of_reads (h1 := fun _ => rfl) (hA39 _ (Kd.reads_of_C HR1.out)))
       have HC390 := Aside0.mk hC39
       clear hA39 hC39 hi039 hsz39
       refine start_ (n := 13) (S := fun w' => w'.cell? ⟨gb388, 0, none⟩ = some (.int .i64 ((rd_T47 l0 x19_1).f0)) ∧ w'.cell? ⟨gb388, 1, none⟩ = some (.int .i64 ((rd_T47 l0 x19_1).f1)) ∧ w'.cell? ⟨gb388, 2, none⟩ = some (.int .i64 ((rd_T47 l0 x19_1).f2)) ∧ w'.cell? ⟨gb388, 3, none⟩ = some (.int .i64 ((rd_T47 l0 x19_1).f3))) (ds := []) (bm 13 0) (by kernel_rfl) rfl (bm0 _) ⟨bc0 BK388, bc1 BK388, bc2 BK388, bc3 BK388⟩ (fun hHeld => ?_); refine with_tabW impl_ReadPrefix.tab9 impl_ReadPrefix.bits9 (fun HT_ HW_ => ?_)
       generalize w37.drew = w38 at HO_6 BK388 HB HR390 hHeld ⊢
       refine pU 1 (some 35) (bm 13 2) HT_ rfl rfl ?_
       refine pU 2 (some 36) (bm 13 6) HT_ rfl rfl ?_
       refine pU 3 (some 37) (bm 13 14) HT_ rfl rfl ?_
       refine tU 0 (some 34) (bm 13 15) HT_ HW_ rfl rfl hHeld ?_
       refine join_ (σ := Value × Nat) 3 (bm 13 1023) (fun s_ => [(38, .tuple #[.agg #[.int .i64 t391, s_.1], .int .i64 t395, .bool false]), (10, .pointer (some ⟨s_.2, 0, none⟩)), (33, .tuple #[.agg #[.int .i64 t391, s_.1], .int .i64 t395, .bool false]), (39, .agg #[.int .i64 t391, s_.1]), (40, .int .i64 t395), (41, .bool false)]) (fun s_ w' => (w'.cell? ⟨gb388, 0, none⟩ = some (.int .i64 ((rd_T47 l0 x19_1).f0)) ∧ w'.cell? ⟨gb388, 1, none⟩ = some (.int .i64 ((rd_T47 l0 x19_1).f1)) ∧ w'.cell? ⟨gb388, 2, none⟩ = some (.int .i64 ((rd_T47 l0 x19_1).f2)) ∧ w'.cell? ⟨gb388, 3, none⟩ = some (.int .i64 ((rd_T47 l0 x19_1).f3))) ∧ (Kd.R (Kd.int .i64) 3 w' w.heap.size (fun _ => True) s_.1 t392) ∧ (Kd.S k58 58 w' w.heap.size (fun k_ => some k_ ≠ (s_.1 : Value).ownBlock ∧ k_ ≠ s_.2) (.slice Ao36 x6_1.length co36) x6_1) ∧ (w'.heap[gb388]? = some (.cells #[.int .i64 ((rd_T47 l0 x19_1).f0), .int .i64 ((rd_T47 l0 x19_1).f1), .int .i64 ((rd_T47 l0 x19_1).f2), .int .i64 ((rd_T47 l0 x19_1).f3)] 47 (0, 0))) ∧ (w'.heap[s_.2]? = some (.cells #[.int .i64 0, .slice none 0 0] 58 (0, 0))) ∧ (w.heap.size ≤ s_.2) ∧ (w.heap.size ≤ s_.2) ∧ (gb388 ≠ s_.2) ∧ (s_.2 ≠ gb388) ∧ (Below w.heap.size w w')) ?_ ?_
       rotate_left
       ·intro hCont
        refine two_ (i := 4) (j := 9) (Ni := some 38) (Nj := some 10) (bm 13 31) (bm 13 527) rfl rfl rfl rfl (two_of HT_.out (by kernel_rfl)) (by decide) (by decide) (fun K hK => ?_) (fun K hK => ?_)
        ·skip
         refine goes_ Try.func48 (by kernel_rfl) rfl #[.agg #[.int .i64 ((rd_T47 l0 x19_1).f0), .int .i64 ((rd_T47 l0 x19_1).f1), .int .i64 ((rd_T47 l0 x19_1).f2), .int .i64 ((rd_T47 l0 x19_1).f3)], .slice A39 (l1.drop (x7_1 : Int).toNat).length (c1 - x7_1.toNat)] (by rfl) rfl rfl (by (try simp only [List.map_toArray, List.map_cons, List.map_nil]); first | done | (rw [show (l1.drop (x7_1 : Int).toNat).length = (l1.length - x7_1.toNat) from List.length_drop] <;> rfl) | rfl | (simp only [List.length_drop, List.length_take]; rfl)) ?_
         with_reducible refine (impl_readField.calls ((rd_T47 l0 x19_1).f0) ((rd_T47 l0 x19_1).f1) ((rd_T47 l0 x19_1).f2) ((rd_T47 l0 x19_1).f3) _ _ (l1.drop (x7_1 : Int).toNat) t391 t392 t395 false _ ?side1 ?side2 A15.out).mono ?_
         (case side1 => exact cS HR390 HB)
         (case side2 => exact HC390.out)
         rintro e w40 ⟨v393, rfl, ho0, hb⟩
         refine ⟨_, rfl, ?_⟩
         replace HO_6 := Aside0.mk (Kd.S_elder' (zS HO_6) (Kd.R_base ho0) hb)
         have HO394 := Aside0.mk (Kd.R_lower ho0 (below_size (zB HB)))
         replace BK388 := kB BK388 hb
         replace HB := bS HB hb
         (try clear hb)
         (try clear hb2)
         (try clear hk)
         (try clear hi)
         (try clear ho0)
         refine hK.out _ _ ⟨bc0 BK388, bc1 BK388, bc2 BK388, bc3 BK388⟩ (fun hHeld => ?_)
         clear hK K
         refine norm_ (a' := ?_) ?_ ?_
         rotate_left
         ·show Act.put _ (some 38) _ = _
          simp only [Act.put, List.setIfInBounds_toArray, List.set_cons_zero, List.set_cons_succ, i64_w, i32_w]
          rfl
         refine pU 5 (some 33) (bm 13 63) HT_ rfl rfl ?_
         refine pU 6 (some 39) (bm 13 127) HT_ rfl rfl ?_
         refine pU 7 (some 40) (bm 13 255) HT_ rfl rfl ?_
         refine pU 8 (some 41) (bm 13 511) HT_ rfl rfl ?_
         refine one_ (i := 9) (N := some 10) (bm 13 1023) rfl rfl (one_of HT_.out (by kernel_rfl)) (by decide) (fun K hK => ?_)
         refine box_step ?hg (N := 10) ?hd (cs := #[.int .i64 0, .slice none 0 0]) (t := 58) ?hr ?_; (case hd => rfl); (case hg => rfl); (case hr => first | (go_simp; done) | (go_simp; rfl))
         intro gb397 hg w41 hbox hb
         replace HO_6 := Aside0.mk (Kd.S_below (Kd.S_elderB (zS HO_6) gb397 (Nat.le_of_eq hg.symm)) hb)
         replace HO394 := Aside0.mk (Kd.R_below (zR HO394) hb)
         have BK397 := Aside0.mk (hbox)
         have GW397 := gS HB hg
         have GE397 := gS HB hg
         replace HB := bS HB hb
         have NB388_397 := nL BK388 hg
         have NB397_388 := nR BK388 hg
         replace BK388 := kB BK388 hb
         clear hb hbox hg
         refine hK.out _ _ ⟨bc0 BK388, bc1 BK388, bc2 BK388, bc3 BK388⟩ (fun hHeld => ?_)
         clear hK K
         refine norm_ (a' := ?_) ?_ ?_
         rotate_left
         ·show Act.put _ (some 10) _ = _
          simp only [Act.put, List.setIfInBounds_toArray, List.set_cons_zero, List.set_cons_succ, i64_w, i32_w]
          rfl
         exact norm_ (by simp only [putAll, Act.put, List.setIfInBounds_toArray, List.set_cons_zero, List.set_cons_succ]) (hCont (v393, gb397) _ ⟨hHeld, (zR HO394), (by (with_reducible repeat (first | apply Kd.S_alloc | apply Kd.S_drewN | apply Kd.S_drew)); exact Kd.S_mono HO_6.out (fun _ hk => ⟨hk.1.2, hk.2⟩)), (zK BK388), (zK BK397), GW397.out, GE397.out, NB388_397.out, NB397_388.out, (zB HB)⟩)
        ·skip
         refine box_step ?hg (N := 10) ?hd (cs := #[.int .i64 0, .slice none 0 0]) (t := 58) ?hr ?_; (case hd => rfl); (case hg => rfl); (case hr => first | (go_simp; done) | (go_simp; rfl))
         intro gb397 hg w40 hbox hb
         replace HO_6 := Aside0.mk (Kd.S_below (Kd.S_elderB (zS HO_6) gb397 (Nat.le_of_eq hg.symm)) hb)
         have BK397 := Aside0.mk (hbox)
         have GW397 := gS HB hg
         have GE397 := gS HB hg
         replace HB := bS HB hb
         have NB388_397 := nL BK388 hg
         have NB397_388 := nR BK388 hg
         replace BK388 := kB BK388 hb
         clear hb hbox hg
         refine hK.out _ _ ⟨bc0 BK388, bc1 BK388, bc2 BK388, bc3 BK388⟩ (fun hHeld => ?_)
         clear hK K
         refine norm_ (a' := ?_) ?_ ?_
         rotate_left
         ·show Act.put _ (some 10) _ = _
          simp only [Act.put, List.setIfInBounds_toArray, List.set_cons_zero, List.set_cons_succ, i64_w, i32_w]
          rfl
         refine one_ (i := 4) (N := some 38) (bm 13 543) rfl rfl (one_of HT_.out (by kernel_rfl)) (by decide) (fun K hK => ?_)
         refine goes_ Try.func48 (by kernel_rfl) rfl #[.agg #[.int .i64 ((rd_T47 l0 x19_1).f0), .int .i64 ((rd_T47 l0 x19_1).f1), .int .i64 ((rd_T47 l0 x19_1).f2), .int .i64 ((rd_T47 l0 x19_1).f3)], .slice A39 (l1.drop (x7_1 : Int).toNat).length (c1 - x7_1.toNat)] (by rfl) rfl rfl (by (try simp only [List.map_toArray, List.map_cons, List.map_nil]); first | done | (rw [show (l1.drop (x7_1 : Int).toNat).length = (l1.length - x7_1.toNat) from List.length_drop] <;> rfl) | rfl | (simp only [List.length_drop, List.length_take]; rfl)) ?_
         with_reducible refine (impl_readField.calls ((rd_T47 l0 x19_1).f0) ((rd_T47 l0 x19_1).f1) ((rd_T47 l0 x19_1).f2) ((rd_T47 l0 x19_1).f3) _ _ (l1.drop (x7_1 : Int).toNat) t391 t392 t395 false _ ?side1 ?side2 A15.out).mono ?_
         (case side1 => exact cS HR390 HB)
         (case side2 => exact HC390.out)
         rintro e w41 ⟨v393, rfl, ho0, hb⟩
         refine ⟨_, rfl, ?_⟩
         replace HO_6 := Aside0.mk (Kd.S_elder' (zS HO_6) (Kd.R_base ho0) hb)
         have HO394 := Aside0.mk (Kd.R_lower ho0 (below_size (zB HB)))
         replace BK388 := kB BK388 hb
         replace BK397 := kB BK397 hb
         replace HB := bS HB hb
         (try clear hb)
         (try clear hb2)
         (try clear hk)
         (try clear hi)
         (try clear ho0)
         refine hK.out _ _ ⟨bc0 BK388, bc1 BK388, bc2 BK388, bc3 BK388⟩ (fun hHeld => ?_)
         clear hK K
         refine norm_ (a' := ?_) ?_ ?_
         rotate_left
         ·show Act.put _ (some 38) _ = _
          simp only [Act.put, List.setIfInBounds_toArray, List.set_cons_zero, List.set_cons_succ, i64_w, i32_w]
          rfl
         refine pU 5 (some 33) (bm 13 575) HT_ rfl rfl ?_
         refine pU 6 (some 39) (bm 13 639) HT_ rfl rfl ?_
         refine pU 7 (some 40) (bm 13 767) HT_ rfl rfl ?_
         refine pU 8 (some 41) (bm 13 1023) HT_ rfl rfl ?_
         exact norm_ (by simp only [putAll, Act.put, List.setIfInBounds_toArray, List.set_cons_zero, List.set_cons_succ]) (hCont (v393, gb397) _ ⟨hHeld, (zR HO394), (by (with_reducible repeat (first | apply Kd.S_alloc | apply Kd.S_drewN | apply Kd.S_drew)); exact Kd.S_mono HO_6.out (fun _ hk => ⟨hk.2, hk.1.2⟩)), (zK BK388), (zK BK397), GW397.out, GE397.out, NB388_397.out, NB397_388.out, (zB HB)⟩)
       rintro ⟨v393, gb397⟩ w42 ⟨hS_, h0_, h1_, h2_, h3_, h4_, h5_, h6_, h7_, h8_⟩
       have HO394 : Aside0 (Kd.R (Kd.int .i64) 3 w42 w.heap.size (fun _ => True) v393 t392) := ⟨h0_⟩
       replace HO_6 : Aside0 (Kd.S k58 58 w42 w.heap.size (fun k_ => some k_ ≠ (v393 : Value).ownBlock ∧ k_ ≠ gb397) (.slice Ao36 x6_1.length co36) x6_1) := ⟨h1_⟩
       replace BK388 : Aside0 (w42.heap[gb388]? = some (.cells #[.int .i64 ((rd_T47 l0 x19_1).f0), .int .i64 ((rd_T47 l0 x19_1).f1), .int .i64 ((rd_T47 l0 x19_1).f2), .int .i64 ((rd_T47 l0 x19_1).f3)] 47 (0, 0))) := ⟨h2_⟩
       have BK397 : Aside0 (w42.heap[gb397]? = some (.cells #[.int .i64 0, .slice none 0 0] 58 (0, 0))) := ⟨h3_⟩
       have GW397 : Aside0 (w.heap.size ≤ gb397) := ⟨h4_⟩
       have GE397 : Aside0 (w.heap.size ≤ gb397) := ⟨h5_⟩
       have NB388_397 : Aside0 (gb388 ≠ gb397) := ⟨h6_⟩
       have NB397_388 : Aside0 (gb397 ≠ gb388) := ⟨h7_⟩
       replace HB : Aside0 (Below w.heap.size w w42) := ⟨h8_⟩
       clear h0_ h1_ h2_ h3_ h4_ h5_ h6_ h7_ h8_
       have hHeld : w42.cell? ⟨gb388, 0, none⟩ = some (.int .i64 ((rd_T47 l0 x19_1).f0)) ∧ w42.cell? ⟨gb388, 1, none⟩ = some (.int .i64 ((rd_T47 l0 x19_1).f1)) ∧ w42.cell? ⟨gb388, 2, none⟩ = some (.int .i64 ((rd_T47 l0 x19_1).f2)) ∧ w42.cell? ⟨gb388, 3, none⟩ = some (.int .i64 ((rd_T47 l0 x19_1).f3)) := hS_
       obtain ⟨Ao44, co44, eo44⟩ := Kd.R_slice HO394.out
       (first | subst eo44 | (injection eo44 with f1_ f2_ f3_; have f4_ := f1_.symm; have f5_ := f3_.symm; clear f1_ f2_ f3_; subst f4_; subst f5_))
       refine norm_ (a' := ?_) ?_ ?_
       rotate_left
       ·simp only [putAll, Act.put, List.setIfInBounds_toArray, List.set_cons_zero, List.set_cons_succ]
        rfl
       refine one_ (i := 10) (N := none) (bm 13 2047) rfl rfl (one_of HT_.out (by kernel_rfl)) (by decide) (fun K hK => ?_)
       have hs43 : w42.cell? ⟨gb397, 0, none⟩ = some (.int .i64 0) := bc0 BK397
       have hfs43 := bf BK397 0
       have hns43_0 := NB388_397.out
       have hms43_0 := NB397_388.out
       have hs45 : w42.cell? ⟨gb397, 1, none⟩ = some (.slice none 0 0) := bc1 BK397
       have hfs45 := bf BK397 1
       have hns45_0 := NB388_397.out
       have hms45_0 := NB397_388.out
       refine skip_ (w1 := ?_) (by rfl) rfl ?_ ?_
       rotate_left
       ·go_simp
        rfl
       refine hK.out _ _ ⟨((cell_far (p := ⟨gb397, _, none⟩) NB388_397.out _).trans (((cell_far (p := ⟨gb397, _, none⟩) NB388_397.out _).trans (hHeld.1)))), ((cell_far (p := ⟨gb397, _, none⟩) NB388_397.out _).trans (((cell_far (p := ⟨gb397, _, none⟩) NB388_397.out _).trans (hHeld.2.1)))), ((cell_far (p := ⟨gb397, _, none⟩) NB388_397.out _).trans (((cell_far (p := ⟨gb397, _, none⟩) NB388_397.out _).trans (hHeld.2.2.1)))), ((cell_far (p := ⟨gb397, _, none⟩) NB388_397.out _).trans (((cell_far (p := ⟨gb397, _, none⟩) NB388_397.out _).trans (hHeld.2.2.2))))⟩ (fun hHeld => ?_)
       clear hK K
       refine pU 11 (some 11) (bm 13 4095) HT_ rfl rfl ?_
       refine pU 12 (some 12) (bm 13 8191) HT_ rfl rfl ?_
       refine done_ (done_of HT_.out (by kernel_rfl)) ?_
       try clear hHeld
       try go_wp2
       go_ret2
       exact ⟨_, zE, by first | exact Kd.S_nil _ _ _ _ _ | exact Kd.N_nil _ _ _ _ _ | exact Kd.V_nil _ _ _ _ _ | exact Kd.Q_nil _ _ _ _ _ | exact Kd.R_nil _ _ _ _ _, zB HB⟩
     ·replace c12 := Bool.eq_false_iff.mpr c12
      subst c12
      have H1 : (if x6_1.length < 4398046511104 then (impl_ReadPrefix.l0 k1 l0 l1 (x6_1 ++ [(⟨0, ([] : List Int)⟩ : S58)]) x7_1 l0 (l0.length : Int) (wrap64 (x19_1 + 1))) else (none)) = some (r1, r2) := by rw [if_neg (show ¬ (false = true) by decide)] at H; exact H
      clear H
      have H := H1
      clear H1
      obtain ⟨c46, H⟩ := ifS H
      have LMc46 := Aside0.mk c46
      clear c46
      obtain ⟨y401, hy401⟩ : ∃ y_ : List (S58), y_ = (x6_1 ++ [(⟨0, ([] : List Int)⟩ : S58)]) := ⟨_, rfl⟩
      replace H : (impl_ReadPrefix.l0 k1 l0 l1 y401 x7_1 l0 (l0.length : Int) (wrap64 (x19_1 + 1))) = some (r1, r2) := by first | (rw [hy401]; with_reducible exact H) | (have H2_ := (Option.bind_some _ _).symm.trans H; rw [hy401]; with_reducible exact H2_) | (have H2_ := (Option.bind_some _ _).symm.trans H; with_reducible exact H2_) | with_reducible exact H | (rw [hy401]; exact H) | exact H
      have Ny401 := Aside0.mk hy401
      clear hy401
      have H' := Aside0.mk H
      clear H
      have p387 : 0 ≤ (x19_1 : Int) := zD
      have q387 : x19_1 < (l0.length : Int) := zD
      obtain ⟨ad387, e387, hx387_0, hx387_1, hx387_2, hx387_3⟩ := at_T47 HR0.out x19_1 p387 q387
      cases e387
      replace hx387_0 := hL HB hx387_0
      replace hx387_1 := hL HB hx387_1
      replace hx387_2 := hL HB hx387_2
      replace hx387_3 := hL HB hx387_3
      replace p387 := eq_true p387
      replace q387 := eq_true q387
      go_wp2_with (first | ((with_reducible refine gate_dst (N := 9) rfl ?_); refine box_event ?hg (N := 9) ?hd (cs := #[.int .i64 0, .int .i64 0, .int .i64 0, .int .i64 0]) (t := 47) ?hr ?_; (case hd => rfl); (case hg => rfl); (case hr => first | (go_simp; done) | (go_simp; rfl)); intro gb388 hg w47 hbox hb; replace HO_6 := Aside0.mk (Kd.S_below (zS HO_6) hb); have BK388 := Aside0.mk (hbox); have GW388 := gS HB hg; have GE388 := gS HB hg; replace HB := bS HB hb; clear hb hbox hg; have hcz48_0 := bc0 BK388; have hcz48_1 := bc1 BK388; have hcz48_2 := bc2 BK388; have hcz48_3 := bc3 BK388; have hfz48_0 := bf BK388 0; have hfz48_1 := bf BK388 1; have hfz48_2 := bf BK388 2; have hfz48_3 := bf BK388 3; obtain ⟨Ao49, co49, eo49⟩ := Kd.S_slice HO_6.out; subst eo49) | ((with_reducible refine gate_callee (f := 42) rfl ?_); refine goesL_ (some 27) rfl rfl Try.func42 (by kernel_rfl) rfl #[.slice (some ad387) l0.length c0, .slice Ao49 x6_1.length co49, .int .i64 x19_1] rfl zG ?_; (with_reducible refine (impl_IsThere.calls _ _ l0 _ _ x6_1 x19_1 false _ ?side1 ?side2 ?side3 ?side4 A11.out).mono ?_); (case side1 => exact Kd.C_below HR0.out (zB HB)); (case side2 => exact HC0.out); (case side3 => refine (Kd.S_reads' (e := 58) (base := w.heap.size) (ok := fun k_ => True) (n := x6_1.length) (c := co49) ?_).2.2; exact (by (with_reducible repeat (first | apply Kd.S_alloc | apply Kd.S_drewN | apply Kd.S_drew)); exact (Kd.S_mono (Kd.S_far (p := ⟨gb388, 3, none⟩) (Kd.S_far (p := ⟨gb388, 2, none⟩) (Kd.S_far (p := ⟨gb388, 1, none⟩) (Kd.S_far (p := ⟨gb388, 0, none⟩) (Kd.S_types HO_6.out BK388.out (by decide)) (fun _ hk => hk.2) (.int .i64 ((rd_T47 l0 x19_1).f0))) (fun _ hk => hk.2) (.int .i64 ((rd_T47 l0 x19_1).f1))) (fun _ hk => hk.2) (.int .i64 ((rd_T47 l0 x19_1).f2))) (fun _ hk => hk.2) (.int .i64 ((rd_T47 l0 x19_1).f3))) (fun _ h_ => h_.1)))); (case side4 => exact (Kd.S_reads' HO_6.out).2.1); rintro e w50 ⟨rfl, hb⟩; refine ⟨_, rfl, ?_⟩; replace HO_6 := Aside0.mk (Kd.S_below (by (with_reducible repeat (first | apply Kd.S_alloc | apply Kd.S_drewN | apply Kd.S_drew)); exact (Kd.S_mono (Kd.S_far (p := ⟨gb388, 3, none⟩) (Kd.S_far (p := ⟨gb388, 2, none⟩) (Kd.S_far (p := ⟨gb388, 1, none⟩) (Kd.S_far (p := ⟨gb388, 0, none⟩) (Kd.S_types HO_6.out BK388.out (by decide)) (fun _ hk => hk.2) (.int .i64 ((rd_T47 l0 x19_1).f0))) (fun _ hk => hk.2) (.int .i64 ((rd_T47 l0 x19_1).f1))) (fun _ hk => hk.2) (.int .i64 ((rd_T47 l0 x19_1).f2))) (fun _ hk => hk.2) (.int .i64 ((rd_T47 l0 x19_1).f3))) (fun _ h_ => h_.1))) hb); replace BK388 := Aside0.mk (blk_below (g := gb388) (o := .cells #[.int .i64 ((rd_T47 l0 x19_1).f0), .int .i64 ((rd_T47 l0 x19_1).f1), .int .i64 ((rd_T47 l0 x19_1).f2), .int .i64 ((rd_T47 l0 x19_1).f3)] 47 (0, 0)) (by (with_reducible repeat (first | refine blk_drewN ?_ _ | refine blk_drew ?_ | refine blk_alloc ?_ _)); refine blk_put (cs := #[.int .i64 ((rd_T47 l0 x19_1).f0), .int .i64 ((rd_T47 l0 x19_1).f1), .int .i64 ((rd_T47 l0 x19_1).f2), .int .i64 0]) ?_ 3 _ rfl; (with_reducible repeat (first | refine blk_drewN ?_ _ | refine blk_drew ?_ | refine blk_alloc ?_ _)); refine blk_put (cs := #[.int .i64 ((rd_T47 l0 x19_1).f0), .int .i64 ((rd_T47 l0 x19_1).f1), .int .i64 0, .int .i64 0]) ?_ 2 _ rfl; (with_reducible repeat (first | refine blk_drewN ?_ _ | refine blk_drew ?_ | refine blk_alloc ?_ _)); refine blk_put (cs := #[.int .i64 ((rd_T47 l0 x19_1).f0), .int .i64 0, .int .i64 0, .int .i64 0]) ?_ 1 _ rfl; (with_reducible repeat (first | refine blk_drewN ?_ _ | refine blk_drew ?_ | refine blk_alloc ?_ _)); refine blk_put (cs := #[.int .i64 0, .int .i64 0, .int .i64 0, .int .i64 0]) ?_ 0 _ rfl; (with_reducible repeat (first | refine blk_drewN ?_ _ | refine blk_drew ?_ | refine blk_alloc ?_ _)); exact BK388.out) hb); replace HB := bS HB hb; (try clear hb)) | ((with_reducible refine gate_builtin (b := .append) (xs := #[.tmp 29, .tmp 31]) rfl ?_); at_builtin; refine Kd.S_append k58 (w0 := w) w.heap.size rfl (.tmp 29) (.tmp 31) 39 58 (.agg #[(.int .i64 0), (.slice none 0 0)]) 32 rfl Try.underlying39 info58 rfl (by decide) (by omega) (.slice Ao49 x6_1.length co49) x6_1 (⟨0, ([] : List Int)⟩ : S58) [.int .i64 0, .slice none 0 0] (fun _ => True) (fun _ => False) rfl rfl ?aP (fun k_ hk_ => hk_.elim) ?aF ?aO ?aB ?aS ?aL ?_; (case aP => exact k58_mkM _ _ _ (⟨0, ([] : List Int)⟩ : S58) (Kd.R_nil _ _ _ _ _)); (case aB => exact (zB HB)); (case aF => exact (fun _ _ => trivial)); (case aO => exact (by (with_reducible repeat (first | apply Kd.S_alloc | apply Kd.S_drewN | apply Kd.S_drew)); exact Kd.S_mono HO_6.out (fun k_ hk => ⟨trivial, fun e_ => e_⟩))); (case aS => exact (below_size (zB HB))); (case aL => have := LMc46.out; omega); intro v402 w51 ho hb hg hat; rw [← Ny401.out] at ho; replace BK388 := Aside0.mk (blk_grown (g := gb388) (o := .cells #[.int .i64 ((rd_T47 l0 x19_1).f0), .int .i64 ((rd_T47 l0 x19_1).f1), .int .i64 ((rd_T47 l0 x19_1).f2), .int .i64 ((rd_T47 l0 x19_1).f3)] 47 (0, 0)) (zK BK388) hg (Kd.S_ne HO_6.out BK388.out (by decide))); replace HB := Aside0.mk (hb); have HO403 := Aside0.mk (ho); clear HO_6; clear ho hb hg hat))
      go_roundg k1
      case measure => have := HK1.out; omega
      case rel => exact ⟨(y401), (x7_1), (wrap64 (x19_1 + 1)), zF, zF, H', ⟨by have := HK1.out; omega⟩, ⟨zS HO403⟩, ⟨zB HB⟩⟩
    ·rw [if_neg c8] at H
     have c8b0 : decide (x19_1 < (l0.length : Int)) = false := decide_eq_false c8
     clear c8
     simp only [Option.some.injEq, Prod.mk.injEq] at H
     obtain ⟨rfl, rfl⟩ := H
     go_wp2
     go_ret2
     exact ⟨_, zE, by (with_reducible repeat (first | apply Kd.S_alloc | apply Kd.S_drewN | apply Kd.S_drew)); exact HO_6.out, zB HB⟩
 ·replace c4 := Bool.eq_false_iff.mpr c4
  subst c4
  have H1 : (some (([] : List (S58)), (-1))) = some (r1, r2) := by rw [if_neg (show ¬ (false = true) by decide)] at H; exact H
  clear H
  have H := H1
  clear H1
  simp only [Option.some.injEq, Prod.mk.injEq] at H
  obtain ⟨rfl, rfl⟩ := H
  go_enter Try.func29, Try.ntmps29
  go_wp2_with (first | ((with_reducible refine gate_dst (N := 13) rfl ?_); refine Kd.S_lit k58 _ 58 ?hg (N := 13) ?hd (xs := ([] : List (S58))) (inner := []) (ok := fun _ => True) (okp := fun _ => True) ?hr ?hp (fun _ hk => hk) trivial (Below.refl _ _) (Nat.le_refl _) (by simp) ?_; (case hd => rfl); (case hg => rfl); (case hr => first | (go_simp; done) | (go_simp; rfl)); (case hp => exact (Reps.none _ _)); intro v384 w52 ho53 hb hg_ hnew_; clear hg_ hnew_; (first | rw [← Ny383.out] at ho53 | (simp only [Int.reduceToNat] at ho53; rw [← Ny383.out] at ho53)); have HO385 := Aside0.mk (Kd.S_lower ho53 (below_size (zB HB))); replace HB := bS HB hb; clear hb ho53) | ((with_reducible refine gate_callee (f := 17) rfl ?_); refine goesL_ (some 15) rfl rfl Try.func17 (by kernel_rfl) rfl #[.slice A0 l0.length c0] rfl zG ?_; (with_reducible refine (impl_IsFormat.calls k _ _ l0 false _ ?side1 ?side2 A3.out).mono ?_); (case side1 => exact cS HR0 HB); (case side2 => exact HC0.out); rintro e w54 ⟨rfl, hb⟩; refine ⟨_, rfl, ?_⟩; replace HO385 := Aside0.mk (Kd.S_below (zS HO385) hb); replace HB := bS HB hb; (try clear hb)))
  go_ret2
  exact ⟨_, zE, by first | exact Kd.S_nil _ _ _ _ _ | exact Kd.N_nil _ _ _ _ _ | exact Kd.V_nil _ _ _ _ _ | exact Kd.Q_nil _ _ _ _ _ | exact Kd.R_nil _ _ _ _ _, zB HB⟩

/-! ### impl_SkipsTail: function 9 -/
def impl_SkipsTail.f (k : Nat) (l0 : List (S47)) (l1 : List (S47)) (a2 : Int) : Option (Bool) := (impl_MakeBytes.f k l1 a2).bind fun t404 => ((impl_ReadPrefix.f k l0 t404).bind fun bt407 => ((impl_MakeMessage.f k l1 a2).bind fun t411 => (if bt407.2 ≥ 0 then (if (t411.length : Int) ≥ (l0.length : Int) then (if 0 ≤ (l0.length : Int) then (if (l0.length : Int) ≤ (t411.length : Int) then ((impl_EqualMessages.f k bt407.1 (t411.take ((l0.length : Int) : Int).toNat)).bind fun t418 => (some t418)) else (none)) else (none)) else (some false)) else (some false))))
theorem impl_SkipsTail.mono : ∀ a0 a1 a2 k, LeO (impl_SkipsTail.f k a0 a1 a2) (impl_SkipsTail.f (k + 1) a0 a1 a2) := by
 intro a0 a1 a2 k
 unfold impl_SkipsTail.f
 repeat' first
   | (with_reducible exact impl_EqualMessages.mono _ _ _)
   | (with_reducible exact impl_MakeBytes.mono _ _ _)
   | (with_reducible exact impl_MakeMessage.mono _ _ _)
   | (with_reducible exact impl_ReadPrefix.mono _ _ _)
   | (with_reducible exact LeO.refl _)
   | (with_reducible exact LeO.none _)
   | (with_reducible refine LeO.ite ?_ ?_)
   | (with_reducible refine LeO.bind ?_ (fun _ => ?_))
   | exact impl_EqualMessages.mono _ _ _
   | exact impl_MakeBytes.mono _ _ _
   | exact impl_MakeMessage.mono _ _ _
   | exact impl_ReadPrefix.mono _ _ _
   | exact LeO.none _
   | refine LeO.ite ?_ ?_
   | refine LeO.bind ?_ (fun _ => ?_)
set_option maxHeartbeats 8000000 in
set_option maxRecDepth 100000 in
theorem impl_SkipsTail.calls (k : Nat) (A0 : Option Addr) (c0 : Nat) (l0 : List (S47)) (A1 : Option Addr) (c1 : Nat) (l1 : List (S47)) (a2 : Int) (r : Bool) (w : World) (hr0 : Kd.C k47 w A0 l0.length l0) (hc0 : l0.length ≤ c0) (hr1 : Kd.C k47 w A1 l1.length l1) (hc1 : l1.length ≤ c1) (h : impl_SkipsTail.f k l0 l1 a2 = some r) :
  Calls Try.prog 9 #[.slice A0 l0.length c0, .slice A1 l1.length c1, .int .i64 a2] w fun e w' => e = .returned (.bool r) ∧ Below w.heap.size w w' := by
 have HR0 := Aside0.mk hr0
 have HC0 := Aside0.mk hc0
 clear hr0 hc0
 have HR1 := Aside0.mk hr1
 have HC1 := Aside0.mk hc1
 clear hr1 hc1
 have HB := Aside0.mk (Below.refl w.heap.size w)
 have H : ((impl_MakeBytes.f k l1 a2).bind fun t404 => ((impl_ReadPrefix.f k l0 t404).bind fun bt407 => ((impl_MakeMessage.f k l1 a2).bind fun t411 => (if bt407.2 ≥ 0 then (if (t411.length : Int) ≥ (l0.length : Int) then (if 0 ≤ (l0.length : Int) then (if (l0.length : Int) ≤ (t411.length : Int) then ((impl_EqualMessages.f k bt407.1 (t411.take ((l0.length : Int) : Int).toNat)).bind fun t418 => (some t418)) else (none)) else (none)) else (some false)) else (some false))))) = some r := h
 clear h
 obtain ⟨t404, A4, H⟩ := bindS H
 replace H := Option.bind_eq_some_iff.mp H
 obtain ⟨⟨t407, t408⟩, A50, H⟩ := H
 replace H : ((impl_MakeMessage.f k l1 a2).bind fun t411 => (if t408 ≥ 0 then (if (t411.length : Int) ≥ (l0.length : Int) then (if 0 ≤ (l0.length : Int) then (if (l0.length : Int) ≤ (t411.length : Int) then ((impl_EqualMessages.f k t407 (t411.take ((l0.length : Int) : Int).toNat)).bind fun t418 => (some t418)) else (none)) else (none)) else (some false)) else (some false))) = some r := H
 have A5 := Aside0.mk A50
 clear A50
 obtain ⟨t411, A6, H⟩ := bindS H
 by_cases c7 : t408 ≥ 0
 ·rw [if_pos c7] at H
  have c7b0 : decide (0 ≤ t408) = true := decide_eq_true c7
  clear c7
  by_cases c8 : (t411.length : Int) ≥ (l0.length : Int)
  ·rw [if_pos c8] at H
   have c8b0 : decide ((l0.length : Int) ≤ (t411.length : Int)) = true := decide_eq_true c8
   have c8b1 : decide (l0.length ≤ t411.length) = true := decide_eq_true (Int.ofNat_le.mp c8)
   clear c8
   obtain ⟨c9, H⟩ := ifS H
   have c9b0 := eq_true c9
   have c9b1 : decide (0 ≤ (l0.length : Int)) = true := decide_eq_true c9
   clear c9
   obtain ⟨c10, H⟩ := ifS H
   have c10b0 := eq_true c10
   have c10b1 : decide ((l0.length : Int) ≤ (t411.length : Int)) = true := decide_eq_true c10
   clear c10
   obtain ⟨y414, hy414⟩ : ∃ y_ : List (S58), y_ = (t411.take ((l0.length : Int) : Int).toNat) := ⟨_, rfl⟩
   replace H : ((impl_EqualMessages.f k t407 y414).bind fun t418 => (some t418)) = some r := by first | (rw [hy414]; with_reducible exact H) | (have H2_ := (Option.bind_some _ _).symm.trans H; rw [hy414]; with_reducible exact H2_) | (have H2_ := (Option.bind_some _ _).symm.trans H; with_reducible exact H2_) | with_reducible exact H | (rw [hy414]; exact H) | exact H
   have Ny414 := Aside0.mk hy414
   clear hy414
   obtain ⟨t418, A11, H⟩ := bindS H
   obtain rfl := Option.some.inj H
   go_enter Try.func9, Try.ntmps9
   go_wp2_with (first | ((with_reducible refine gate_callee (f := 20) rfl ?_); refine goesL_ (some 14) rfl rfl Try.func20 (by kernel_rfl) rfl #[.slice A1 l1.length c1, .int .i64 a2] rfl zG ?_; (with_reducible refine (impl_MakeBytes.calls k _ _ l1 a2 t404 _ ?side1 ?side2 A4.out).mono ?_); (case side1 => exact cT HR1); (case side2 => exact HC1.out); rintro e w12 ⟨v405, rfl, ho0, hb⟩; refine ⟨_, rfl, ?_⟩; have HO406 := Aside0.mk (Kd.R_lower ho0 (below_size (zB HB))); replace HB := bS HB hb; (try clear hb); (try clear ho0); obtain ⟨Ao13, co13, eo13⟩ := Kd.R_slice HO406.out; subst eo13) | ((with_reducible refine gate_callee (f := 29) rfl ?_); refine goesL_ (some 15) rfl rfl Try.func29 (by kernel_rfl) rfl #[.slice A0 l0.length c0, .slice Ao13 t404.length co13] rfl zG ?_; (with_reducible refine (impl_ReadPrefix.calls k _ _ l0 _ _ t404 t407 t408 _ ?side1 ?side2 ?side3 ?side4 A5.out).mono ?_); (case side1 => exact cS HR0 HB); (case side2 => exact HC0.out); (case side3 => repeat (first | exact (Kd.R_reads' HO406.out).2.2 | (with_reducible refine Kd.C_alloc ?_ _) | (with_reducible refine Kd.C_drewN ?_ _) | (with_reducible refine Kd.C_drew ?_))); (case side4 => exact (Kd.R_reads' HO406.out).2.1); rintro e w14 ⟨v409, rfl, ho0, hb⟩; refine ⟨_, rfl, ?_⟩; have HO410 := Aside0.mk (Kd.S_lower (Kd.S_new' ho0 (Kd.R_lt (zR HO406))) (below_size (zB HB))); replace HO406 := Aside0.mk (Kd.R_below (zR HO406) hb); replace HB := bS HB hb; (try clear hb); (try clear ho0)) | ((with_reducible refine gate_callee (f := 23) rfl ?_); refine goesL_ (some 20) rfl rfl Try.func23 (by kernel_rfl) rfl #[.slice A1 l1.length c1, .int .i64 a2] rfl zG ?_; (with_reducible refine (impl_MakeMessage.calls k _ _ l1 a2 t411 _ ?side1 ?side2 A6.out).mono ?_); (case side1 => exact cS HR1 HB); (case side2 => exact HC1.out); rintro e w15 ⟨v412, rfl, ho0, hb⟩; refine ⟨_, rfl, ?_⟩; have HO413 := Aside0.mk (Kd.S_lower (Kd.S_new' (Kd.S_new' ho0 (Kd.R_lt (zR HO406))) (Kd.S_lt (zS HO410))) (below_size (zB HB))); replace HO406 := Aside0.mk (Kd.R_below (zR HO406) hb); replace HO410 := Aside0.mk (Kd.S_elder' (zS HO410) (Kd.S_base ho0) hb); replace HB := bS HB hb; (try clear hb); (try clear ho0); obtain ⟨Ao16, co16, eo16⟩ := Kd.S_slice HO413.out; subst eo16; have q17 : ((l0.length : Int) : Int) ≤ ((t411.length : Int) : Int) := zD; obtain ⟨i017, hi017, _, hsz17, _⟩ := info_parts info58; have hroom17 : t411.length ≤ co16 := (Kd.S_reads' HO413.out).2.1; have hC17 : Kd.C k58 _ Ao16 t411.length t411 := (Kd.S_reads' HO413.out).2.2; have hcut17 := cut_to (P := Try.prog) 39 58 .i64 Try.underlying39 hi017 Ao16 t411.length co16 (l0.length : Int) (zD) q17 hroom17; have hr17 := Kd.C_take (m := ((l0.length : Int) : Int).toNat) hC17 (by omega); have hy17 : y414.length = ((l0.length : Int) : Int).toNat := (by rw [Ny414.out, List.length_take]; omega); rw [← Ny414.out] at hr17; rw [← hy17] at hcut17; have HR417 := Aside0.mk hr17; have HC417 := Aside0.mk (show y414.length ≤ co16 from by omega); clear hr17 hC17 hroom17 hi017 hsz17; have KY17 := Aside0.mk hy17; clear hy17; have KL17 := Aside0.mk (show ((l0.length : Int) : Int).toNat ≤ t411.length from by omega); replace q17 := eq_true q17; obtain ⟨Ao18, co18, eo18⟩ := Kd.S_slice HO410.out; subst eo18) | (go_at_call 22; (with_reducible refine (impl_EqualMessages.calls k _ _ t407 _ _ y414 t418 _ ?side1 ?side2 ?side3 ?side4 A11.out).mono ?_); (case side1 => repeat (first | exact (Kd.S_reads' HO410.out).2.2 | (with_reducible refine Kd.C_alloc ?_ _) | (with_reducible refine Kd.C_drewN ?_ _) | (with_reducible refine Kd.C_drew ?_))); (case side2 => exact (Kd.S_reads' HO410.out).2.1); (case side3 => repeat (first | exact (by repeat (first | (with_reducible exact HR417.out) | (with_reducible refine Kd.C_alloc ?_ _) | (with_reducible refine Kd.C_drewN ?_ _) | (with_reducible refine Kd.C_drew ?_) | exact HR417.out)) | (with_reducible refine Kd.C_alloc ?_ _) | (with_reducible refine Kd.C_drewN ?_ _) | (with_reducible refine Kd.C_drew ?_))); (case side4 => exact HC417.out); rintro e w19 ⟨rfl, hb⟩; replace HO406 := Aside0.mk (Kd.R_below (zR HO406) hb); replace HO410 := Aside0.mk (Kd.S_below (zS HO410) hb); replace HO413 := Aside0.mk (Kd.S_below (zS HO413) hb); replace HR417 := Aside0.mk (Kd.C_below (by repeat (first | (with_reducible exact HR417.out) | (with_reducible refine Kd.C_alloc ?_ _) | (with_reducible refine Kd.C_drewN ?_ _) | (with_reducible refine Kd.C_drew ?_) | exact HR417.out)) hb); replace HB := bS HB hb; (try clear hb)))
   go_ret
   exact ⟨zE, zB HB⟩
  ·rw [if_neg c8] at H
   have c8b0 : decide ((l0.length : Int) ≤ (t411.length : Int)) = false := decide_eq_false c8
   have c8b1 : decide (l0.length ≤ t411.length) = false := decide_eq_false (fun h => c8 (Int.ofNat_le.mpr h))
   clear c8
   obtain rfl := Option.some.inj H
   go_enter Try.func9, Try.ntmps9
   go_wp2_with (first | ((with_reducible refine gate_callee (f := 20) rfl ?_); refine goesL_ (some 14) rfl rfl Try.func20 (by kernel_rfl) rfl #[.slice A1 l1.length c1, .int .i64 a2] rfl zG ?_; (with_reducible refine (impl_MakeBytes.calls k _ _ l1 a2 t404 _ ?side1 ?side2 A4.out).mono ?_); (case side1 => exact cT HR1); (case side2 => exact HC1.out); rintro e w20 ⟨v405, rfl, ho0, hb⟩; refine ⟨_, rfl, ?_⟩; have HO406 := Aside0.mk (Kd.R_lower ho0 (below_size (zB HB))); replace HB := bS HB hb; (try clear hb); (try clear ho0); obtain ⟨Ao21, co21, eo21⟩ := Kd.R_slice HO406.out; subst eo21) | ((with_reducible refine gate_callee (f := 29) rfl ?_); refine goesL_ (some 15) rfl rfl Try.func29 (by kernel_rfl) rfl #[.slice A0 l0.length c0, .slice Ao21 t404.length co21] rfl zG ?_; (with_reducible refine (impl_ReadPrefix.calls k _ _ l0 _ _ t404 t407 t408 _ ?side1 ?side2 ?side3 ?side4 A5.out).mono ?_); (case side1 => exact cS HR0 HB); (case side2 => exact HC0.out); (case side3 => repeat (first | exact (Kd.R_reads' HO406.out).2.2 | (with_reducible refine Kd.C_alloc ?_ _) | (with_reducible refine Kd.C_drewN ?_ _) | (with_reducible refine Kd.C_drew ?_))); (case side4 => exact (Kd.R_reads' HO406.out).2.1); rintro e w22 ⟨v409, rfl, ho0, hb⟩; refine ⟨_, rfl, ?_⟩; have HO410 := Aside0.mk (Kd.S_lower (Kd.S_new' ho0 (Kd.R_lt (zR HO406))) (below_size (zB HB))); replace HO406 := Aside0.mk (Kd.R_below (zR HO406) hb); replace HB := bS HB hb; (try clear hb); (try clear ho0)) | ((with_reducible refine gate_callee (f := 23) rfl ?_); refine goesL_ (some 20) rfl rfl Try.func23 (by kernel_rfl) rfl #[.slice A1 l1.length c1, .int .i64 a2] rfl zG ?_; (with_reducible refine (impl_MakeMessage.calls k _ _ l1 a2 t411 _ ?side1 ?side2 A6.out).mono ?_); (case side1 => exact cS HR1 HB); (case side2 => exact HC1.out); rintro e w23 ⟨v412, rfl, ho0, hb⟩; refine ⟨_, rfl, ?_⟩; have HO413 := Aside0.mk (Kd.S_lower (Kd.S_new' (Kd.S_new' ho0 (Kd.R_lt (zR HO406))) (Kd.S_lt (zS HO410))) (below_size (zB HB))); replace HO406 := Aside0.mk (Kd.R_below (zR HO406) hb); replace HO410 := Aside0.mk (Kd.S_elder' (zS HO410) (Kd.S_base ho0) hb); replace HB := bS HB hb; (try clear hb); (try clear ho0); obtain ⟨Ao24, co24, eo24⟩ := Kd.S_slice HO413.out; subst eo24))
   go_ret
   exact ⟨zE, zB HB⟩
 ·rw [if_neg c7] at H
  have c7b0 : decide (0 ≤ t408) = false := decide_eq_false c7
  clear c7
  obtain rfl := Option.some.inj H
  go_enter Try.func9, Try.ntmps9
  go_wp2_with (first | ((with_reducible refine gate_callee (f := 20) rfl ?_); refine goesL_ (some 14) rfl rfl Try.func20 (by kernel_rfl) rfl #[.slice A1 l1.length c1, .int .i64 a2] rfl zG ?_; (with_reducible refine (impl_MakeBytes.calls k _ _ l1 a2 t404 _ ?side1 ?side2 A4.out).mono ?_); (case side1 => exact cT HR1); (case side2 => exact HC1.out); rintro e w25 ⟨v405, rfl, ho0, hb⟩; refine ⟨_, rfl, ?_⟩; have HO406 := Aside0.mk (Kd.R_lower ho0 (below_size (zB HB))); replace HB := bS HB hb; (try clear hb); (try clear ho0); obtain ⟨Ao26, co26, eo26⟩ := Kd.R_slice HO406.out; subst eo26) | ((with_reducible refine gate_callee (f := 29) rfl ?_); refine goesL_ (some 15) rfl rfl Try.func29 (by kernel_rfl) rfl #[.slice A0 l0.length c0, .slice Ao26 t404.length co26] rfl zG ?_; (with_reducible refine (impl_ReadPrefix.calls k _ _ l0 _ _ t404 t407 t408 _ ?side1 ?side2 ?side3 ?side4 A5.out).mono ?_); (case side1 => exact cS HR0 HB); (case side2 => exact HC0.out); (case side3 => repeat (first | exact (Kd.R_reads' HO406.out).2.2 | (with_reducible refine Kd.C_alloc ?_ _) | (with_reducible refine Kd.C_drewN ?_ _) | (with_reducible refine Kd.C_drew ?_))); (case side4 => exact (Kd.R_reads' HO406.out).2.1); rintro e w27 ⟨v409, rfl, ho0, hb⟩; refine ⟨_, rfl, ?_⟩; have HO410 := Aside0.mk (Kd.S_lower (Kd.S_new' ho0 (Kd.R_lt (zR HO406))) (below_size (zB HB))); replace HO406 := Aside0.mk (Kd.R_below (zR HO406) hb); replace HB := bS HB hb; (try clear hb); (try clear ho0)) | ((with_reducible refine gate_callee (f := 23) rfl ?_); refine goesL_ (some 20) rfl rfl Try.func23 (by kernel_rfl) rfl #[.slice A1 l1.length c1, .int .i64 a2] rfl zG ?_; (with_reducible refine (impl_MakeMessage.calls k _ _ l1 a2 t411 _ ?side1 ?side2 A6.out).mono ?_); (case side1 => exact cS HR1 HB); (case side2 => exact HC1.out); rintro e w28 ⟨v412, rfl, ho0, hb⟩; refine ⟨_, rfl, ?_⟩; have HO413 := Aside0.mk (Kd.S_lower (Kd.S_new' (Kd.S_new' ho0 (Kd.R_lt (zR HO406))) (Kd.S_lt (zS HO410))) (below_size (zB HB))); replace HO406 := Aside0.mk (Kd.R_below (zR HO406) hb); replace HO410 := Aside0.mk (Kd.S_elder' (zS HO410) (Kd.S_base ho0) hb); replace HB := bS HB hb; (try clear hb); (try clear ho0)))
  go_ret
  exact ⟨zE, zB HB⟩

/-! ### laws_eqField: function 30 -/
def laws_eqField.f (a0_0 : Int) (a0_1 : Int) (a0_2 : Int) (a0_3 : Int) (a1_0 : Int) (a1_1 : Int) (a1_2 : Int) (a1_3 : Int) : Option (Bool) := if a0_0 = a1_0 then (if a0_1 = a1_1 then (if a0_2 = a1_2 then (if a0_3 = a1_3 then (some true) else (some false)) else (some false)) else (some false)) else (some false)
set_option maxHeartbeats 8000000 in
set_option maxRecDepth 100000 in
theorem laws_eqField.calls (a0_0 : Int) (a0_1 : Int) (a0_2 : Int) (a0_3 : Int) (a1_0 : Int) (a1_1 : Int) (a1_2 : Int) (a1_3 : Int) (r : Bool) (w : World) (h : laws_eqField.f a0_0 a0_1 a0_2 a0_3 a1_0 a1_1 a1_2 a1_3 = some r) :
  Calls Try.prog 30 #[.agg #[.int .i64 a0_0, .int .i64 a0_1, .int .i64 a0_2, .int .i64 a0_3], .agg #[.int .i64 a1_0, .int .i64 a1_1, .int .i64 a1_2, .int .i64 a1_3]] w fun e w' => e = .returned (.bool r) ∧ Below w.heap.size w w' := by
 have hu47 := Try.underlying47
 have HB := Aside0.mk (Below.refl w.heap.size w)
 have H : (if a0_0 = a1_0 then (if a0_1 = a1_1 then (if a0_2 = a1_2 then (if a0_3 = a1_3 then (some true) else (some false)) else (some false)) else (some false)) else (some false)) = some r := h
 clear h
 by_cases c3 : a0_0 = a1_0
 ·rw [if_pos c3] at H
  have c3b0 : (a0_0 == a1_0) = true := beq_iff_eq.mpr c3
  have c3b1 : (a0_0 != a1_0) = false := bne_eq_false_iff_eq.mpr c3
  clear c3
  by_cases c4 : a0_1 = a1_1
  ·rw [if_pos c4] at H
   have c4b0 : (a0_1 == a1_1) = true := beq_iff_eq.mpr c4
   have c4b1 : (a0_1 != a1_1) = false := bne_eq_false_iff_eq.mpr c4
   clear c4
   by_cases c5 : a0_2 = a1_2
   ·rw [if_pos c5] at H
    have c5b0 : (a0_2 == a1_2) = true := beq_iff_eq.mpr c5
    have c5b1 : (a0_2 != a1_2) = false := bne_eq_false_iff_eq.mpr c5
    clear c5
    by_cases c6 : a0_3 = a1_3
    ·rw [if_pos c6] at H
     have c6b0 : (a0_3 == a1_3) = true := beq_iff_eq.mpr c6
     have c6b1 : (a0_3 != a1_3) = false := bne_eq_false_iff_eq.mpr c6
     clear c6
     obtain rfl := Option.some.inj H
     go_enter Try.func30, Try.ntmps30
     go_wp2_with (first | ((with_reducible refine gate_dst (N := 2) rfl ?_); refine box_event ?hg (N := 2) ?hd (cs := #[.int .i64 a0_0, .int .i64 a0_1, .int .i64 a0_2, .int .i64 a0_3]) (t := 47) ?hr ?_; (case hd => rfl); (case hg => rfl); (case hr => first | (go_simp; done) | (go_simp; rfl)); intro gb419 hg w7 hbox hb; have BK419 := Aside0.mk (hbox); have GW419 := gS HB hg; have GE419 := gS HB hg; replace HB := bS HB hb; clear hb hbox hg) | ((with_reducible refine gate_dst (N := 3) rfl ?_); refine box_event ?hg (N := 3) ?hd (cs := #[.int .i64 a1_0, .int .i64 a1_1, .int .i64 a1_2, .int .i64 a1_3]) (t := 47) ?hr ?_; (case hd => rfl); (case hg => rfl); (case hr => first | (go_simp; done) | (go_simp; rfl)); intro gb420 hg w8 hbox hb; have BK420 := Aside0.mk (hbox); have GW420 := gS HB hg; have GE420 := gS HB hg; replace HB := bS HB hb; have NB419_420 := nL BK419 hg; have NB420_419 := nR BK419 hg; replace BK419 := kB BK419 hb; clear hb hbox hg; have hnb9 := NB419_420.out; have hnc9 := NB420_419.out; have hcz10_0 := bc0 BK419; have hcz10_1 := bc1 BK419; have hcz10_2 := bc2 BK419; have hcz10_3 := bc3 BK419; have hfz10_0 := bf BK419 0; have hfz10_1 := bf BK419 1; have hfz10_2 := bf BK419 2; have hfz10_3 := bf BK419 3; have hcz11_0 := bc0 BK420; have hcz11_1 := bc1 BK420; have hcz11_2 := bc2 BK420; have hcz11_3 := bc3 BK420; have hfz11_0 := bf BK420 0; have hfz11_1 := bf BK420 1; have hfz11_2 := bf BK420 2; have hfz11_3 := bf BK420 3))
     go_ret
     exact ⟨zE, zB HB⟩
    ·rw [if_neg c6] at H
     have c6b0 : (a0_3 == a1_3) = false := beq_eq_false_iff_ne.mpr c6
     have c6b1 : (a0_3 != a1_3) = true := bne_iff_ne.mpr c6
     obtain rfl := Option.some.inj H
     go_enter Try.func30, Try.ntmps30
     go_wp2_with (first | ((with_reducible refine gate_dst (N := 2) rfl ?_); refine box_event ?hg (N := 2) ?hd (cs := #[.int .i64 a0_0, .int .i64 a0_1, .int .i64 a0_2, .int .i64 a0_3]) (t := 47) ?hr ?_; (case hd => rfl); (case hg => rfl); (case hr => first | (go_simp; done) | (go_simp; rfl)); intro gb419 hg w12 hbox hb; have BK419 := Aside0.mk (hbox); have GW419 := gS HB hg; have GE419 := gS HB hg; replace HB := bS HB hb; clear hb hbox hg) | ((with_reducible refine gate_dst (N := 3) rfl ?_); refine box_event ?hg (N := 3) ?hd (cs := #[.int .i64 a1_0, .int .i64 a1_1, .int .i64 a1_2, .int .i64 a1_3]) (t := 47) ?hr ?_; (case hd => rfl); (case hg => rfl); (case hr => first | (go_simp; done) | (go_simp; rfl)); intro gb420 hg w13 hbox hb; have BK420 := Aside0.mk (hbox); have GW420 := gS HB hg; have GE420 := gS HB hg; replace HB := bS HB hb; have NB419_420 := nL BK419 hg; have NB420_419 := nR BK419 hg; replace BK419 := kB BK419 hb; clear hb hbox hg; have hnb14 := NB419_420.out; have hnc14 := NB420_419.out; have hcz15_0 := bc0 BK419; have hcz15_1 := bc1 BK419; have hcz15_2 := bc2 BK419; have hcz15_3 := bc3 BK419; have hfz15_0 := bf BK419 0; have hfz15_1 := bf BK419 1; have hfz15_2 := bf BK419 2; have hfz15_3 := bf BK419 3; have hcz16_0 := bc0 BK420; have hcz16_1 := bc1 BK420; have hcz16_2 := bc2 BK420; have hcz16_3 := bc3 BK420; have hfz16_0 := bf BK420 0; have hfz16_1 := bf BK420 1; have hfz16_2 := bf BK420 2; have hfz16_3 := bf BK420 3))
     go_ret
     exact ⟨zE, zB HB⟩
   ·rw [if_neg c5] at H
    have c5b0 : (a0_2 == a1_2) = false := beq_eq_false_iff_ne.mpr c5
    have c5b1 : (a0_2 != a1_2) = true := bne_iff_ne.mpr c5
    obtain rfl := Option.some.inj H
    go_enter Try.func30, Try.ntmps30
    go_wp2_with (first | ((with_reducible refine gate_dst (N := 2) rfl ?_); refine box_event ?hg (N := 2) ?hd (cs := #[.int .i64 a0_0, .int .i64 a0_1, .int .i64 a0_2, .int .i64 a0_3]) (t := 47) ?hr ?_; (case hd => rfl); (case hg => rfl); (case hr => first | (go_simp; done) | (go_simp; rfl)); intro gb419 hg w17 hbox hb; have BK419 := Aside0.mk (hbox); have GW419 := gS HB hg; have GE419 := gS HB hg; replace HB := bS HB hb; clear hb hbox hg) | ((with_reducible refine gate_dst (N := 3) rfl ?_); refine box_event ?hg (N := 3) ?hd (cs := #[.int .i64 a1_0, .int .i64 a1_1, .int .i64 a1_2, .int .i64 a1_3]) (t := 47) ?hr ?_; (case hd => rfl); (case hg => rfl); (case hr => first | (go_simp; done) | (go_simp; rfl)); intro gb420 hg w18 hbox hb; have BK420 := Aside0.mk (hbox); have GW420 := gS HB hg; have GE420 := gS HB hg; replace HB := bS HB hb; have NB419_420 := nL BK419 hg; have NB420_419 := nR BK419 hg; replace BK419 := kB BK419 hb; clear hb hbox hg; have hnb19 := NB419_420.out; have hnc19 := NB420_419.out; have hcz20_0 := bc0 BK419; have hcz20_1 := bc1 BK419; have hcz20_2 := bc2 BK419; have hcz20_3 := bc3 BK419; have hfz20_0 := bf BK419 0; have hfz20_1 := bf BK419 1; have hfz20_2 := bf BK419 2; have hfz20_3 := bf BK419 3; have hcz21_0 := bc0 BK420; have hcz21_1 := bc1 BK420; have hcz21_2 := bc2 BK420; have hcz21_3 := bc3 BK420; have hfz21_0 := bf BK420 0; have hfz21_1 := bf BK420 1; have hfz21_2 := bf BK420 2; have hfz21_3 := bf BK420 3))
    go_ret
    exact ⟨zE, zB HB⟩
  ·rw [if_neg c4] at H
   have c4b0 : (a0_1 == a1_1) = false := beq_eq_false_iff_ne.mpr c4
   have c4b1 : (a0_1 != a1_1) = true := bne_iff_ne.mpr c4
   obtain rfl := Option.some.inj H
   go_enter Try.func30, Try.ntmps30
   go_wp2_with (first | ((with_reducible refine gate_dst (N := 2) rfl ?_); refine box_event ?hg (N := 2) ?hd (cs := #[.int .i64 a0_0, .int .i64 a0_1, .int .i64 a0_2, .int .i64 a0_3]) (t := 47) ?hr ?_; (case hd => rfl); (case hg => rfl); (case hr => first | (go_simp; done) | (go_simp; rfl)); intro gb419 hg w22 hbox hb; have BK419 := Aside0.mk (hbox); have GW419 := gS HB hg; have GE419 := gS HB hg; replace HB := bS HB hb; clear hb hbox hg) | ((with_reducible refine gate_dst (N := 3) rfl ?_); refine box_event ?hg (N := 3) ?hd (cs := #[.int .i64 a1_0, .int .i64 a1_1, .int .i64 a1_2, .int .i64 a1_3]) (t := 47) ?hr ?_; (case hd => rfl); (case hg => rfl); (case hr => first | (go_simp; done) | (go_simp; rfl)); intro gb420 hg w23 hbox hb; have BK420 := Aside0.mk (hbox); have GW420 := gS HB hg; have GE420 := gS HB hg; replace HB := bS HB hb; have NB419_420 := nL BK419 hg; have NB420_419 := nR BK419 hg; replace BK419 := kB BK419 hb; clear hb hbox hg; have hnb24 := NB419_420.out; have hnc24 := NB420_419.out; have hcz25_0 := bc0 BK419; have hcz25_1 := bc1 BK419; have hcz25_2 := bc2 BK419; have hcz25_3 := bc3 BK419; have hfz25_0 := bf BK419 0; have hfz25_1 := bf BK419 1; have hfz25_2 := bf BK419 2; have hfz25_3 := bf BK419 3; have hcz26_0 := bc0 BK420; have hcz26_1 := bc1 BK420; have hcz26_2 := bc2 BK420; have hcz26_3 := bc3 BK420; have hfz26_0 := bf BK420 0; have hfz26_1 := bf BK420 1; have hfz26_2 := bf BK420 2; have hfz26_3 := bf BK420 3))
   go_ret
   exact ⟨zE, zB HB⟩
 ·rw [if_neg c3] at H
  have c3b0 : (a0_0 == a1_0) = false := beq_eq_false_iff_ne.mpr c3
  have c3b1 : (a0_0 != a1_0) = true := bne_iff_ne.mpr c3
  obtain rfl := Option.some.inj H
  go_enter Try.func30, Try.ntmps30
  go_wp2_with (first | ((with_reducible refine gate_dst (N := 2) rfl ?_); refine box_event ?hg (N := 2) ?hd (cs := #[.int .i64 a0_0, .int .i64 a0_1, .int .i64 a0_2, .int .i64 a0_3]) (t := 47) ?hr ?_; (case hd => rfl); (case hg => rfl); (case hr => first | (go_simp; done) | (go_simp; rfl)); intro gb419 hg w27 hbox hb; have BK419 := Aside0.mk (hbox); have GW419 := gS HB hg; have GE419 := gS HB hg; replace HB := bS HB hb; clear hb hbox hg) | ((with_reducible refine gate_dst (N := 3) rfl ?_); refine box_event ?hg (N := 3) ?hd (cs := #[.int .i64 a1_0, .int .i64 a1_1, .int .i64 a1_2, .int .i64 a1_3]) (t := 47) ?hr ?_; (case hd => rfl); (case hg => rfl); (case hr => first | (go_simp; done) | (go_simp; rfl)); intro gb420 hg w28 hbox hb; have BK420 := Aside0.mk (hbox); have GW420 := gS HB hg; have GE420 := gS HB hg; replace HB := bS HB hb; have NB419_420 := nL BK419 hg; have NB420_419 := nR BK419 hg; replace BK419 := kB BK419 hb; clear hb hbox hg; have hnb29 := NB419_420.out; have hnc29 := NB420_419.out; have hcz30_0 := bc0 BK419; have hcz30_1 := bc1 BK419; have hcz30_2 := bc2 BK419; have hcz30_3 := bc3 BK419; have hfz30_0 := bf BK419 0; have hfz30_1 := bf BK419 1; have hfz30_2 := bf BK419 2; have hfz30_3 := bf BK419 3; have hcz31_0 := bc0 BK420; have hcz31_1 := bc1 BK420; have hcz31_2 := bc2 BK420; have hcz31_3 := bc3 BK420; have hfz31_0 := bf BK420 0; have hfz31_1 := bf BK420 1; have hfz31_2 := bf BK420 2; have hfz31_3 := bf BK420 3))
  go_ret
  exact ⟨zE, zB HB⟩

end Go.Proofs.Yticpmgofegaaeaa.PFnExactSkipsTail
