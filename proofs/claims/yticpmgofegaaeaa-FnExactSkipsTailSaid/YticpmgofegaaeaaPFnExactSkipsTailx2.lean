-- WRITTEN by pp.py, this session's own wrapper around the print; not trusted: Lean checks it
import Derived.Test.YticpmgofegaaeaaPFnExactSkipsTailx0
import Derived.Test.YticpmgofegaaeaaPFnExactSkipsTailx1
namespace Go.Proofs.Yticpmgofegaaeaa.PFnExactSkipsTail
open Go.RowKit Go.Proofs.Yticpmgofegaaeaa.Hw Go.Proofs.YticpmgofegaaeaaW.PrintWords Go.Proofs.YticpmgofegaaeaaW.PrintLast Go.Proofs.YticpmgofegaaeaaW.PrintMore
attribute [local go_sem] max2_int min2_int max_two min_two max_three min_three max_four min_four   -- for this text's walks alone
set_option linter.unusedVariables false
set_option linter.unusedSimpArgs false
set_option linter.unusedSectionVars false

/-! ### spec_IsFormat: function 31 -/
mutual
def spec_IsFormat.l0 : Nat → List (S47) → Int → Option (Bool)
 | 0, _, _ => none
 | k + 1, x0, x3 => if x3 < (x0.length : Int) then (if 0 ≤ x3 then (if ((rd_T47 x0 x3).f0) = 1 then (spec_IsFormat.j1 k x0 x3 99 ((rd_T47 x0 x3).f0) ((rd_T47 x0 x3).f1) ((rd_T47 x0 x3).f2) ((rd_T47 x0 x3).f3)) else (spec_IsFormat.j1 k x0 x3 5 ((rd_T47 x0 x3).f0) ((rd_T47 x0 x3).f1) ((rd_T47 x0 x3).f2) ((rd_T47 x0 x3).f3))) else (none)) else ((spec_l1In.f (x0.length : Int) 1 6).bind fun t101 => (some t101))
def spec_IsFormat.j1 : Nat → List (S47) → Int → Int → Int → Int → Int → Int → Option (Bool)
 | 0, _, _, _, _, _, _, _ => none
 | k + 1, x0, x3, x5, x104000, x104001, x104002, x104003 => (spec_l1In.f x104000 1 3).bind fun t104 => (if t104 = true then ((spec_l1In.f x104001 1 x5).bind fun t105 => (spec_IsFormat.j2 k x0 x3 (!t105) x104000 x104001 x104002 x104003)) else (spec_IsFormat.j2 k x0 x3 true x104000 x104001 x104002 x104003))
def spec_IsFormat.j2 : Nat → List (S47) → Int → Bool → Int → Int → Int → Int → Option (Bool)
 | 0, _, _, _, _, _, _, _ => none
 | k + 1, x0, x3, x29, x104000, x104001, x104002, x104003 => if x29 = true then (some false) else (if x104002 = (-1) then (if x104003 = 0 then (spec_IsFormat.l0 k x0 (wrap64 (x3 + 1))) else (some false)) else ((spec_l1In.f x104002 0 (wrap64 (x3 - 1))).bind fun t106 => (if t106 = true then (if 0 ≤ x104002 then (if x104002 < (x0.length : Int) then (if ((rd_T47 x0 x104002).f0) = 1 then (if ((rd_T47 x0 x104002).f2) = (-1) then ((spec_l1In.f x104003 0 ((rd_T47 x0 x104002).f1)).bind fun t110 => (if t110 = true then (spec_IsFormat.l0 k x0 (wrap64 (x3 + 1))) else (some false))) else (some false)) else (some false)) else (none)) else (none)) else (some false))))
end
def spec_IsFormat.f (k : Nat) (l0 : List (S47)) : Option (Bool) := spec_IsFormat.l0 k l0 0
theorem spec_IsFormat.mono_l : ∀ k, (∀ y0 y1, LeO (spec_IsFormat.l0 k y0 y1) (spec_IsFormat.l0 (k + 1) y0 y1)) ∧ (∀ y0 y1 y2 y3 y4 y5 y6, LeO (spec_IsFormat.j1 k y0 y1 y2 y3 y4 y5 y6) (spec_IsFormat.j1 (k + 1) y0 y1 y2 y3 y4 y5 y6)) ∧ (∀ y0 y1 y2 y3 y4 y5 y6, LeO (spec_IsFormat.j2 k y0 y1 y2 y3 y4 y5 y6) (spec_IsFormat.j2 (k + 1) y0 y1 y2 y3 y4 y5 y6))
 | 0 => ⟨fun _ _ r h => by simp [spec_IsFormat.l0] at h, fun _ _ _ _ _ _ _ r h => by simp [spec_IsFormat.j1] at h, fun _ _ _ _ _ _ _ r h => by simp [spec_IsFormat.j2] at h⟩
 | k + 1 => by
  obtain ⟨ih0, ih1, ih2⟩ := spec_IsFormat.mono_l k
  refine ⟨?_, ?_, ?_⟩
  ·intro y0 y1
   unfold spec_IsFormat.l0
   repeat' first
   | (with_reducible exact ih0 _ _)
   | (with_reducible exact ih1 _ _ _ _ _ _ _)
   | (with_reducible exact ih2 _ _ _ _ _ _ _)
   | (with_reducible exact LeO.refl _)
   | (with_reducible exact LeO.none _)
   | (with_reducible refine LeO.ite ?_ ?_)
   | (with_reducible refine LeO.bind ?_ (fun _ => ?_))
   | exact ih0 _ _
   | exact ih1 _ _ _ _ _ _ _
   | exact ih2 _ _ _ _ _ _ _
   | exact LeO.none _
   | refine LeO.ite ?_ ?_
   | refine LeO.bind ?_ (fun _ => ?_)
  ·intro y0 y1 y2 y3 y4 y5 y6
   unfold spec_IsFormat.j1
   repeat' first
   | (with_reducible exact ih0 _ _)
   | (with_reducible exact ih1 _ _ _ _ _ _ _)
   | (with_reducible exact ih2 _ _ _ _ _ _ _)
   | (with_reducible exact LeO.refl _)
   | (with_reducible exact LeO.none _)
   | (with_reducible refine LeO.ite ?_ ?_)
   | (with_reducible refine LeO.bind ?_ (fun _ => ?_))
   | exact ih0 _ _
   | exact ih1 _ _ _ _ _ _ _
   | exact ih2 _ _ _ _ _ _ _
   | exact LeO.none _
   | refine LeO.ite ?_ ?_
   | refine LeO.bind ?_ (fun _ => ?_)
  ·intro y0 y1 y2 y3 y4 y5 y6
   unfold spec_IsFormat.j2
   repeat' first
   | (with_reducible exact ih0 _ _)
   | (with_reducible exact ih1 _ _ _ _ _ _ _)
   | (with_reducible exact ih2 _ _ _ _ _ _ _)
   | (with_reducible exact LeO.refl _)
   | (with_reducible exact LeO.none _)
   | (with_reducible refine LeO.ite ?_ ?_)
   | (with_reducible refine LeO.bind ?_ (fun _ => ?_))
   | exact ih0 _ _
   | exact ih1 _ _ _ _ _ _ _
   | exact ih2 _ _ _ _ _ _ _
   | exact LeO.none _
   | refine LeO.ite ?_ ?_
   | refine LeO.bind ?_ (fun _ => ?_)
theorem spec_IsFormat.mono : ∀ a0 k, LeO (spec_IsFormat.f k a0) (spec_IsFormat.f (k + 1) a0) := by
 intro a0 k
 obtain ⟨ih0, ih1, ih2⟩ := spec_IsFormat.mono_l k
 unfold spec_IsFormat.f
 repeat' first
   | (with_reducible exact ih0 _ _)
   | (with_reducible exact ih1 _ _ _ _ _ _ _)
   | (with_reducible exact ih2 _ _ _ _ _ _ _)
   | (with_reducible exact LeO.refl _)
   | (with_reducible exact LeO.none _)
   | (with_reducible refine LeO.ite ?_ ?_)
   | (with_reducible refine LeO.bind ?_ (fun _ => ?_))
   | exact ih0 _ _
   | exact ih1 _ _ _ _ _ _ _
   | exact ih2 _ _ _ _ _ _ _
   | exact LeO.none _
   | refine LeO.ite ?_ ?_
   | refine LeO.bind ?_ (fun _ => ?_)
def spec_IsFormat.T13 : Bool × List (List Nat × List Nat) := (true, [([], []), ([0], [0]), ([], []), ([2], [2]), ([1, 3], [1, 3]), ([4], [4]), ([5, 4], [5]), ([6], [6]), ([6], [6]), ([8, 6], [6, 8]), ([7, 9, 6], [6, 7, 9]), ([10, 6], [6, 10]), ([11, 6], [6, 11]), ([12, 6], [6, 12]), ([6, 13], [6, 13]), ([14, 6], [14]), ([15], [15]), ([15], [15]), ([17, 15], [15, 17]), ([16, 18, 15], [15, 16, 18]), ([19, 15], [15, 19]), ([20, 15], [15, 20]), ([21, 15], [15, 21]), ([15, 22], [15, 22]), ([23, 15], [23]), ([24], [24]), ([25, 24], [24, 25]), ([24], [24]), ([24], [24]), ([28, 24], [24, 28]), ([27, 29, 24], [24, 27, 29]), ([30, 24], [24, 30]), ([31, 24], [24, 31]), ([26, 32, 24, 24], [24, 26, 32]), ([33, 24], [24, 33]), ([24, 34], [24, 34])])
def spec_IsFormat.B13 : List Nat := [0, 1, 0, 4, 15, 31, 63, 127, 127, 383, 1023, 2047, 4095, 8191, 16383, 32767, 65535, 65535, 196607, 524287, 1048575, 2097151, 4194303, 8388607, 16777215, 33554431, 67108863, 33554431, 33554431, 301989887, 973078527, 2046820351, 4194303999, 8589934591, 17179869183, 34359738367]
theorem spec_IsFormat.tab13 : rtab .any (opsOf Try.f31 13) = spec_IsFormat.T13 := by kernel_rfl
theorem spec_IsFormat.bits13 : waitsOk spec_IsFormat.T13.2 spec_IsFormat.B13 = true := by kernel_rfl
set_option maxHeartbeats 8000000 in
set_option maxRecDepth 100000 in
theorem spec_IsFormat.calls (k : Nat) (A0 : Option Addr) (c0 : Nat) (l0 : List (S47)) (r : Bool) (w : World) (hr0 : Kd.C k47 w A0 l0.length l0) (hc0 : l0.length ≤ c0) (h : spec_IsFormat.f k l0 = some r) :
  Calls Try.prog 31 #[.slice A0 l0.length c0] w fun e w' => e = .returned (.bool r) ∧ Below w.heap.size w w' := by
 have hu47 := Try.underlying47
 have HR0 := Aside0.mk hr0
 have HC0 := Aside0.mk hc0
 clear hr0 hc0
 have HB := Aside0.mk (Below.refl w.heap.size w)
 have H : (spec_IsFormat.l0 k l0 0) = some r := h
 clear h
 have H' := Aside0.mk H
 clear H
 go_enter Try.func31, Try.ntmps31
 go_wp2
 go_loopg [3] k (fun kq v3 w' => ∃ (x3_1 : Int), v3 = .int .i64 x3_1 ∧ Aside0 (spec_IsFormat.l0 kq l0 x3_1 = some r) ∧ Aside0 (kq ≤ k) ∧ Aside0 (Below w.heap.size w w'))
 case atStart => exact ⟨(0), zF, H', ⟨Nat.le_refl _⟩, ⟨zB HB⟩⟩
 case round =>
  clear H'
  obtain ⟨x3_1, rfl, HA, HK1, HB⟩ := hrel
  cases gk with
  | zero => exact absurd HA.out (by simp [spec_IsFormat.l0])
  | succ k1 =>
   have H := HA.out
   clear HA
   simp only [spec_IsFormat.l0] at H
   by_cases c2 : x3_1 < (l0.length : Int)
   ·rw [if_pos c2] at H
    have c2b0 : decide (x3_1 < (l0.length : Int)) = true := decide_eq_true c2
    clear c2
    obtain ⟨c3, H⟩ := ifS H
    have c3b0 : decide (0 ≤ x3_1) = true := decide_eq_true c3
    clear c3
    have HC4 := Aside0.mk H
    clear H
    have p102 : 0 ≤ (x3_1 : Int) := zD
    have q102 : x3_1 < (l0.length : Int) := zD
    obtain ⟨ad102, e102, hx102_0, hx102_1, hx102_2, hx102_3⟩ := at_T47 HR0.out x3_1 p102 q102
    cases e102
    replace hx102_0 := hL HB hx102_0
    replace hx102_1 := hL HB hx102_1
    replace hx102_2 := hL HB hx102_2
    replace hx102_3 := hL HB hx102_3
    replace p102 := eq_true p102
    replace q102 := eq_true q102
    go_upto_if 18 with (first | ((with_reducible refine gate_dst (N := 4) rfl ?_); refine box_event ?hg (N := 4) ?hd (cs := #[.int .i64 0, .int .i64 0, .int .i64 0, .int .i64 0]) (t := 47) ?hr ?_; (case hd => rfl); (case hg => rfl); (case hr => first | (go_simp; done) | (go_simp; rfl)); intro gb103 hg w5 hbox hb; have BK103 := Aside0.mk (hbox); have GW103 := gS HB hg; have GE103 := gS HB hg; replace HB := bS HB hb; clear hb hbox hg; have hcz6_0 := bc0 BK103; have hcz6_1 := bc1 BK103; have hcz6_2 := bc2 BK103; have hcz6_3 := bc3 BK103; have hfz6_0 := bf BK103 0; have hfz6_1 := bf BK103 1; have hfz6_2 := bf BK103 2; have hfz6_3 := bf BK103 3))
    (try simp only [Act.put, List.setIfInBounds_toArray, List.set_cons_zero, List.set_cons_succ])
    go_cut [5] (fun v5 wc => ∃ (kq : Nat) (x5_3 : Int), v5 = .int .i64 x5_3 ∧ Aside0 (spec_IsFormat.j1 kq l0 x3_1 x5_3 ((rd_T47 l0 x3_1).f0) ((rd_T47 l0 x3_1).f1) ((rd_T47 l0 x3_1).f2) ((rd_T47 l0 x3_1).f3) = some r) ∧ Aside0 (kq ≤ k1) ∧ Aside0 (wc.heap[gb103]? = some (.cells #[.int .i64 ((rd_T47 l0 x3_1).f0), .int .i64 ((rd_T47 l0 x3_1).f1), .int .i64 ((rd_T47 l0 x3_1).f2), .int .i64 ((rd_T47 l0 x3_1).f3)] 47 (0, 0))) ∧ Aside0 (Below w.heap.size w wc))
    case first =>
     have H := HC4.out
     clear HC4
     by_cases c7 : ((rd_T47 l0 x3_1).f0) = 1
     ·rw [if_pos c7] at H
      have c7b0 : (((rd_T47 l0 x3_1).f0) == 1) = true := beq_iff_eq.mpr c7
      have c7b1 : (((rd_T47 l0 x3_1).f0) != 1) = false := bne_eq_false_iff_eq.mpr c7
      clear c7
      (first | rw [c7b0] | (simp only [i64_w, i32_w]; rw [c7b0]) | skip)
      have H' := Aside0.mk H
      clear H
      go_wp2
      go_meet
      case rel => exact ⟨_, (99), zF, H', ⟨by have := HK1.out; first | omega | exact Nat.le_refl _⟩, ⟨by (with_reducible repeat (first | refine blk_drewN ?_ _ | refine blk_drew ?_ | refine blk_alloc ?_ _)); refine blk_put (cs := #[.int .i64 ((rd_T47 l0 x3_1).f0), .int .i64 ((rd_T47 l0 x3_1).f1), .int .i64 ((rd_T47 l0 x3_1).f2), .int .i64 0]) ?_ 3 _ rfl; (with_reducible repeat (first | refine blk_drewN ?_ _ | refine blk_drew ?_ | refine blk_alloc ?_ _)); refine blk_put (cs := #[.int .i64 ((rd_T47 l0 x3_1).f0), .int .i64 ((rd_T47 l0 x3_1).f1), .int .i64 0, .int .i64 0]) ?_ 2 _ rfl; (with_reducible repeat (first | refine blk_drewN ?_ _ | refine blk_drew ?_ | refine blk_alloc ?_ _)); refine blk_put (cs := #[.int .i64 ((rd_T47 l0 x3_1).f0), .int .i64 0, .int .i64 0, .int .i64 0]) ?_ 1 _ rfl; (with_reducible repeat (first | refine blk_drewN ?_ _ | refine blk_drew ?_ | refine blk_alloc ?_ _)); refine blk_put (cs := #[.int .i64 0, .int .i64 0, .int .i64 0, .int .i64 0]) ?_ 0 _ rfl; (with_reducible repeat (first | refine blk_drewN ?_ _ | refine blk_drew ?_ | refine blk_alloc ?_ _)); exact BK103.out⟩, ⟨zB HB⟩⟩
     ·rw [if_neg c7] at H
      have c7b0 : (((rd_T47 l0 x3_1).f0) == 1) = false := beq_eq_false_iff_ne.mpr c7
      have c7b1 : (((rd_T47 l0 x3_1).f0) != 1) = true := bne_iff_ne.mpr c7
      (first | rw [c7b0] | (simp only [i64_w, i32_w]; rw [c7b0]) | skip)
      have H' := Aside0.mk H
      clear H
      go_wp2
      go_meet
      case rel => exact ⟨_, (5), zF, H', ⟨by have := HK1.out; first | omega | exact Nat.le_refl _⟩, ⟨by (with_reducible repeat (first | refine blk_drewN ?_ _ | refine blk_drew ?_ | refine blk_alloc ?_ _)); refine blk_put (cs := #[.int .i64 ((rd_T47 l0 x3_1).f0), .int .i64 ((rd_T47 l0 x3_1).f1), .int .i64 ((rd_T47 l0 x3_1).f2), .int .i64 0]) ?_ 3 _ rfl; (with_reducible repeat (first | refine blk_drewN ?_ _ | refine blk_drew ?_ | refine blk_alloc ?_ _)); refine blk_put (cs := #[.int .i64 ((rd_T47 l0 x3_1).f0), .int .i64 ((rd_T47 l0 x3_1).f1), .int .i64 0, .int .i64 0]) ?_ 2 _ rfl; (with_reducible repeat (first | refine blk_drewN ?_ _ | refine blk_drew ?_ | refine blk_alloc ?_ _)); refine blk_put (cs := #[.int .i64 ((rd_T47 l0 x3_1).f0), .int .i64 0, .int .i64 0, .int .i64 0]) ?_ 1 _ rfl; (with_reducible repeat (first | refine blk_drewN ?_ _ | refine blk_drew ?_ | refine blk_alloc ?_ _)); refine blk_put (cs := #[.int .i64 0, .int .i64 0, .int .i64 0, .int .i64 0]) ?_ 0 _ rfl; (with_reducible repeat (first | refine blk_drewN ?_ _ | refine blk_drew ?_ | refine blk_alloc ?_ _)); exact BK103.out⟩, ⟨zB HB⟩⟩
    case rest =>
     clear HC4
     try clear p1
     try clear q1
     try clear hx1
     try clear c2
     try clear c2b0
     try clear p2
     try clear c3
     try clear c3b0
     try clear c7
     try clear c7b0
     try clear c7b1
     try clear hcz6_0
     try clear hcz6_1
     try clear hcz6_2
     try clear hcz6_3
     try clear hfz6_0
     try clear hfz6_1
     try clear hfz6_2
     try clear hfz6_3
     try clear hx102_0
     try clear hx102_1
     try clear hx102_2
     try clear hx102_3
     try clear p102
     try clear q102
     obtain ⟨kq, x5_3, rfl, HA, HJ3, BK103, HB⟩ := hcut
     cases kq with
     | zero => exact absurd HA.out (by simp [spec_IsFormat.j1])
     | succ kj3 =>
      have H := HA.out
      clear HA
      simp only [spec_IsFormat.j1] at H
      have HC8 := Aside0.mk H
      clear H
      go_upto_region 8 with (fail)
      go_cut [29] (fun v29 wc => ∃ (kq : Nat) (x29_7 : Bool), v29 = .bool x29_7 ∧ Aside0 (spec_IsFormat.j2 kq l0 x3_1 x29_7 ((rd_T47 l0 x3_1).f0) ((rd_T47 l0 x3_1).f1) ((rd_T47 l0 x3_1).f2) ((rd_T47 l0 x3_1).f3) = some r) ∧ Aside0 (kq ≤ kj3) ∧ Aside0 (wc.heap[gb103]? = some (.cells #[.int .i64 ((rd_T47 l0 x3_1).f0), .int .i64 ((rd_T47 l0 x3_1).f1), .int .i64 ((rd_T47 l0 x3_1).f2), .int .i64 ((rd_T47 l0 x3_1).f3)] 47 (0, 0))) ∧ Aside0 (Below w.heap.size w wc))
      case first =>
       have H := HC8.out
       clear HC8
       obtain ⟨t104, A9, H⟩ := bindS H
       by_cases c10 : t104 = true
       ·subst c10
        have H1 : ((spec_l1In.f ((rd_T47 l0 x3_1).f1) 1 x5_3).bind fun t105 => (spec_IsFormat.j2 kj3 l0 x3_1 (!t105) ((rd_T47 l0 x3_1).f0) ((rd_T47 l0 x3_1).f1) ((rd_T47 l0 x3_1).f2) ((rd_T47 l0 x3_1).f3))) = some r := by rw [if_pos rfl] at H; exact H
        clear H
        have H := H1
        clear H1
        obtain ⟨t105, A11, H⟩ := bindS H
        have H' := Aside0.mk H
        clear H
        have hcz12_0 := bc0 BK103
        have hcz12_1 := bc1 BK103
        have hcz12_2 := bc2 BK103
        have hcz12_3 := bc3 BK103
        have hfz12_0 := bf BK103 0
        have hfz12_1 := bf BK103 1
        have hfz12_2 := bf BK103 2
        have hfz12_3 := bf BK103 3
        go_wp2_with (first | ((with_reducible refine gate_callee (f := 49) rfl ?_); refine goesL_ (some 21) rfl rfl Try.func49 (by kernel_rfl) rfl #[.int .i64 ((rd_T47 l0 x3_1).f0), .int .i64 1, .int .i64 3] rfl zG ?_; (with_reducible refine (spec_l1In.calls ((rd_T47 l0 x3_1).f0) 1 3 true _ A9.out).mono ?_); rintro e w' ⟨rfl, ⟨nd, rfl⟩⟩; refine ⟨_, rfl, ?_⟩) | (go_at_call 49; (with_reducible refine (spec_l1In.calls ((rd_T47 l0 x3_1).f1) 1 x5_3 t105 _ A11.out).mono ?_); rintro e w' ⟨rfl, ⟨nd, rfl⟩⟩))
        go_meet
        case rel => exact ⟨_, (!t105), zF, H', ⟨by have := HK1.out; have := HJ3.out; first | omega | exact Nat.le_refl _⟩, ⟨zK BK103⟩, ⟨zB HB⟩⟩
       ·replace c10 := Bool.eq_false_iff.mpr c10
        subst c10
        have H1 : (spec_IsFormat.j2 kj3 l0 x3_1 true ((rd_T47 l0 x3_1).f0) ((rd_T47 l0 x3_1).f1) ((rd_T47 l0 x3_1).f2) ((rd_T47 l0 x3_1).f3)) = some r := by rw [if_neg (show ¬ (false = true) by decide)] at H; exact H
        clear H
        have H := H1
        clear H1
        have H' := Aside0.mk H
        clear H
        have hcz13_0 := bc0 BK103
        have hcz13_1 := bc1 BK103
        have hcz13_2 := bc2 BK103
        have hcz13_3 := bc3 BK103
        have hfz13_0 := bf BK103 0
        have hfz13_1 := bf BK103 1
        have hfz13_2 := bf BK103 2
        have hfz13_3 := bf BK103 3
        go_wp2_with (first | ((with_reducible refine gate_callee (f := 49) rfl ?_); refine goesL_ (some 21) rfl rfl Try.func49 (by kernel_rfl) rfl #[.int .i64 ((rd_T47 l0 x3_1).f0), .int .i64 1, .int .i64 3] rfl zG ?_; (with_reducible refine (spec_l1In.calls ((rd_T47 l0 x3_1).f0) 1 3 false _ A9.out).mono ?_); rintro e w' ⟨rfl, ⟨nd, rfl⟩⟩; refine ⟨_, rfl, ?_⟩))
        go_meet
        case rel => exact ⟨_, (true), zF, H', ⟨by have := HK1.out; have := HJ3.out; first | omega | exact Nat.le_refl _⟩, ⟨zK BK103⟩, ⟨zB HB⟩⟩
      case rest =>
       clear HC8
       try clear c1
       try clear p1
       try clear q1
       try clear hx1
       try clear c2
       try clear c2b0
       try clear p2
       try clear c3
       try clear c3b0
       try clear c4
       try clear c7
       try clear c7b0
       try clear c7b1
       try clear c10
       try clear p10
       try clear q10
       try clear hx10
       try clear hcz12_0
       try clear hcz12_1
       try clear hcz12_2
       try clear hcz12_3
       try clear hcz13_0
       try clear hcz13_1
       try clear hcz13_2
       try clear hcz13_3
       try clear hcz6_0
       try clear hcz6_1
       try clear hcz6_2
       try clear hcz6_3
       try clear hfz12_0
       try clear hfz12_1
       try clear hfz12_2
       try clear hfz12_3
       try clear hfz13_0
       try clear hfz13_1
       try clear hfz13_2
       try clear hfz13_3
       try clear hfz6_0
       try clear hfz6_1
       try clear hfz6_2
       try clear hfz6_3
       try clear hx102_0
       try clear hx102_1
       try clear hx102_2
       try clear hx102_3
       try clear p1
       try clear p102
       try clear p2
       try clear q1
       try clear q102
       obtain ⟨kq, x29_7, rfl, HA, HJ7, BK103, HB⟩ := hcut
       cases kq with
       | zero => exact absurd HA.out (by simp [spec_IsFormat.j2])
       | succ kj7 =>
        have H := HA.out
        clear HA
        simp only [spec_IsFormat.j2] at H
        by_cases c14 : x29_7 = true
        ·subst c14
         have H1 : (some false) = some r := by rw [if_pos rfl] at H; exact H
         clear H
         have H := H1
         clear H1
         obtain rfl := Option.some.inj H
         go_wp2
         go_ret
         exact ⟨zE, zB HB⟩
        ·replace c14 := Bool.eq_false_iff.mpr c14
         subst c14
         have H1 : (if ((rd_T47 l0 x3_1).f2) = (-1) then (if ((rd_T47 l0 x3_1).f3) = 0 then (spec_IsFormat.l0 kj7 l0 (wrap64 (x3_1 + 1))) else (some false)) else ((spec_l1In.f ((rd_T47 l0 x3_1).f2) 0 (wrap64 (x3_1 - 1))).bind fun t106 => (if t106 = true then (if 0 ≤ ((rd_T47 l0 x3_1).f2) then (if ((rd_T47 l0 x3_1).f2) < (l0.length : Int) then (if ((rd_T47 l0 ((rd_T47 l0 x3_1).f2)).f0) = 1 then (if ((rd_T47 l0 ((rd_T47 l0 x3_1).f2)).f2) = (-1) then ((spec_l1In.f ((rd_T47 l0 x3_1).f3) 0 ((rd_T47 l0 ((rd_T47 l0 x3_1).f2)).f1)).bind fun t110 => (if t110 = true then (spec_IsFormat.l0 kj7 l0 (wrap64 (x3_1 + 1))) else (some false))) else (some false)) else (some false)) else (none)) else (none)) else (some false)))) = some r := by rw [if_neg (show ¬ (false = true) by decide)] at H; exact H
         clear H
         have H := H1
         clear H1
         by_cases c15 : ((rd_T47 l0 x3_1).f2) = (-1)
         ·rw [if_pos c15] at H
          have c15b0 : (((rd_T47 l0 x3_1).f2) == (-1)) = true := beq_iff_eq.mpr c15
          have c15b1 : (((rd_T47 l0 x3_1).f2) != (-1)) = false := bne_eq_false_iff_eq.mpr c15
          clear c15
          by_cases c16 : ((rd_T47 l0 x3_1).f3) = 0
          ·rw [if_pos c16] at H
           have c16b0 : (((rd_T47 l0 x3_1).f3) == 0) = true := beq_iff_eq.mpr c16
           have c16b1 : (((rd_T47 l0 x3_1).f3) != 0) = false := bne_eq_false_iff_eq.mpr c16
           clear c16
           have H' := Aside0.mk H
           clear H
           have hcz17_0 := bc0 BK103
           have hcz17_1 := bc1 BK103
           have hcz17_2 := bc2 BK103
           have hcz17_3 := bc3 BK103
           have hfz17_0 := bf BK103 0
           have hfz17_1 := bf BK103 1
           have hfz17_2 := bf BK103 2
           have hfz17_3 := bf BK103 3
           go_wp2
           go_roundg kj7
           case measure => have := HK1.out; have := HJ3.out; have := HJ7.out; omega
           case rel => exact ⟨(wrap64 (x3_1 + 1)), zF, H', ⟨by have := HK1.out; have := HJ3.out; have := HJ7.out; omega⟩, ⟨zB HB⟩⟩
          ·rw [if_neg c16] at H
           have c16b0 : (((rd_T47 l0 x3_1).f3) == 0) = false := beq_eq_false_iff_ne.mpr c16
           have c16b1 : (((rd_T47 l0 x3_1).f3) != 0) = true := bne_iff_ne.mpr c16
           obtain rfl := Option.some.inj H
           have hcz18_0 := bc0 BK103
           have hcz18_1 := bc1 BK103
           have hcz18_2 := bc2 BK103
           have hcz18_3 := bc3 BK103
           have hfz18_0 := bf BK103 0
           have hfz18_1 := bf BK103 1
           have hfz18_2 := bf BK103 2
           have hfz18_3 := bf BK103 3
           go_wp2
           go_ret
           exact ⟨zE, zB HB⟩
         ·rw [if_neg c15] at H
          have c15b0 : (((rd_T47 l0 x3_1).f2) == (-1)) = false := beq_eq_false_iff_ne.mpr c15
          have c15b1 : (((rd_T47 l0 x3_1).f2) != (-1)) = true := bne_iff_ne.mpr c15
          obtain ⟨t106, A19, H⟩ := bindS H
          by_cases c20 : t106 = true
          ·subst c20
           have H1 : (if 0 ≤ ((rd_T47 l0 x3_1).f2) then (if ((rd_T47 l0 x3_1).f2) < (l0.length : Int) then (if ((rd_T47 l0 ((rd_T47 l0 x3_1).f2)).f0) = 1 then (if ((rd_T47 l0 ((rd_T47 l0 x3_1).f2)).f2) = (-1) then ((spec_l1In.f ((rd_T47 l0 x3_1).f3) 0 ((rd_T47 l0 ((rd_T47 l0 x3_1).f2)).f1)).bind fun t110 => (if t110 = true then (spec_IsFormat.l0 kj7 l0 (wrap64 (x3_1 + 1))) else (some false))) else (some false)) else (some false)) else (none)) else (none)) = some r := by rw [if_pos rfl] at H; exact H
           clear H
           have H := H1
           clear H1
           obtain ⟨c21, H⟩ := ifS H
           have c21b0 : decide (0 ≤ ((rd_T47 l0 x3_1).f2)) = true := decide_eq_true c21
           clear c21
           obtain ⟨c22, H⟩ := ifS H
           have c22b0 : decide (((rd_T47 l0 x3_1).f2) < (l0.length : Int)) = true := decide_eq_true c22
           clear c22
           by_cases c23 : ((rd_T47 l0 ((rd_T47 l0 x3_1).f2)).f0) = 1
           ·rw [if_pos c23] at H
            have c23b0 : (((rd_T47 l0 ((rd_T47 l0 x3_1).f2)).f0) == 1) = true := beq_iff_eq.mpr c23
            have c23b1 : (((rd_T47 l0 ((rd_T47 l0 x3_1).f2)).f0) != 1) = false := bne_eq_false_iff_eq.mpr c23
            clear c23
            by_cases c24 : ((rd_T47 l0 ((rd_T47 l0 x3_1).f2)).f2) = (-1)
            ·rw [if_pos c24] at H
             have c24b0 : (((rd_T47 l0 ((rd_T47 l0 x3_1).f2)).f2) == (-1)) = true := beq_iff_eq.mpr c24
             have c24b1 : (((rd_T47 l0 ((rd_T47 l0 x3_1).f2)).f2) != (-1)) = false := bne_eq_false_iff_eq.mpr c24
             clear c24
             obtain ⟨t110, A25, H⟩ := bindS H
             by_cases c26 : t110 = true
             ·subst c26
              have H1 : (spec_IsFormat.l0 kj7 l0 (wrap64 (x3_1 + 1))) = some r := by rw [if_pos rfl] at H; exact H
              clear H
              have H := H1
              clear H1
              have H' := Aside0.mk H
              clear H
              have hcz27_0 := bc0 BK103
              have hcz27_1 := bc1 BK103
              have hcz27_2 := bc2 BK103
              have hcz27_3 := bc3 BK103
              have hfz27_0 := bf BK103 0
              have hfz27_1 := bf BK103 1
              have hfz27_2 := bf BK103 2
              have hfz27_3 := bf BK103 3
              try go_wp2
              replace BK103 := Aside0.mk (blk_drew BK103.out)
              replace HB := Aside0.mk (below_drew1 HB.out)
              have p107 : 0 ≤ (((rd_T47 l0 x3_1).f2) : Int) := zD
              have q107 : ((rd_T47 l0 x3_1).f2) < (l0.length : Int) := zD
              obtain ⟨ad107, e107, hx107_0, hx107_1, hx107_2, hx107_3⟩ := at_T47 HR0.out ((rd_T47 l0 x3_1).f2) p107 q107
              have hw107_3 := hx107_3
              have hw107_2 := hx107_2
              have hw107_1 := hx107_1
              have hw107_0 := hx107_0
              obtain rfl : ad102 = ad107 := (by injection e107)
              replace hx107_0 := hL HB hx107_0
              replace hx107_1 := hL HB hx107_1
              replace hx107_2 := hL HB hx107_2
              replace hx107_3 := hL HB hx107_3
              replace p107 := eq_true p107
              replace q107 := eq_true q107
              have p108 : 0 ≤ (((rd_T47 l0 x3_1).f2) : Int) := zD
              have q108 : ((rd_T47 l0 x3_1).f2) < (l0.length : Int) := zD
              obtain ⟨ad108, e108, hx108_0, hx108_1, hx108_2, hx108_3⟩ := at_T47 HR0.out ((rd_T47 l0 x3_1).f2) p108 q108
              have hw108_3 := hx108_3
              have hw108_2 := hx108_2
              have hw108_1 := hx108_1
              have hw108_0 := hx108_0
              obtain rfl : ad102 = ad108 := (by injection e108)
              replace hx108_0 := hL HB hx108_0
              replace hx108_1 := hL HB hx108_1
              replace hx108_2 := hL HB hx108_2
              replace hx108_3 := hL HB hx108_3
              replace p108 := eq_true p108
              replace q108 := eq_true q108
              have p109 : 0 ≤ (((rd_T47 l0 x3_1).f2) : Int) := zD
              have q109 : ((rd_T47 l0 x3_1).f2) < (l0.length : Int) := zD
              obtain ⟨ad109, e109, hx109_0, hx109_1, hx109_2, hx109_3⟩ := at_T47 HR0.out ((rd_T47 l0 x3_1).f2) p109 q109
              have hw109_3 := hx109_3
              have hw109_2 := hx109_2
              have hw109_1 := hx109_1
              have hw109_0 := hx109_0
              obtain rfl : ad102 = ad109 := (by injection e109)
              replace hx109_0 := hL HB hx109_0
              replace hx109_1 := hL HB hx109_1
              replace hx109_2 := hL HB hx109_2
              replace hx109_3 := hL HB hx109_3
              replace p109 := eq_true p109
              replace q109 := eq_true q109
              refine start_ (n := 36) (S := fun w' => w'.cell? ⟨gb103, 0, none⟩ = some (.int .i64 ((rd_T47 l0 x3_1).f0)) ∧ w'.cell? ⟨gb103, 1, none⟩ = some (.int .i64 ((rd_T47 l0 x3_1).f1)) ∧ w'.cell? ⟨gb103, 2, none⟩ = some (.int .i64 ((rd_T47 l0 x3_1).f2)) ∧ w'.cell? ⟨gb103, 3, none⟩ = some (.int .i64 ((rd_T47 l0 x3_1).f3)) ∧ w'.cell? (ad102.add ((((rd_T47 l0 x3_1).f2)).toNat * 4)) = some (.int .i64 ((rd_T47 l0 ((rd_T47 l0 x3_1).f2)).f0)) ∧ w'.cell? ⟨(ad102.add ((((rd_T47 l0 x3_1).f2)).toNat * 4)).block, (ad102.add ((((rd_T47 l0 x3_1).f2)).toNat * 4)).off + 1, none⟩ = some (.int .i64 ((rd_T47 l0 ((rd_T47 l0 x3_1).f2)).f1)) ∧ w'.cell? ⟨(ad102.add ((((rd_T47 l0 x3_1).f2)).toNat * 4)).block, (ad102.add ((((rd_T47 l0 x3_1).f2)).toNat * 4)).off + 2, none⟩ = some (.int .i64 ((rd_T47 l0 ((rd_T47 l0 x3_1).f2)).f2)) ∧ w'.cell? ⟨(ad102.add ((((rd_T47 l0 x3_1).f2)).toNat * 4)).block, (ad102.add ((((rd_T47 l0 x3_1).f2)).toNat * 4)).off + 3, none⟩ = some (.int .i64 ((rd_T47 l0 ((rd_T47 l0 x3_1).f2)).f3)) ∧ w'.cell? (ad102.add ((((rd_T47 l0 x3_1).f2)).toNat * 4)) = some (.int .i64 ((rd_T47 l0 ((rd_T47 l0 x3_1).f2)).f0)) ∧ w'.cell? ⟨(ad102.add ((((rd_T47 l0 x3_1).f2)).toNat * 4)).block, (ad102.add ((((rd_T47 l0 x3_1).f2)).toNat * 4)).off + 1, none⟩ = some (.int .i64 ((rd_T47 l0 ((rd_T47 l0 x3_1).f2)).f1)) ∧ w'.cell? ⟨(ad102.add ((((rd_T47 l0 x3_1).f2)).toNat * 4)).block, (ad102.add ((((rd_T47 l0 x3_1).f2)).toNat * 4)).off + 2, none⟩ = some (.int .i64 ((rd_T47 l0 ((rd_T47 l0 x3_1).f2)).f2)) ∧ w'.cell? ⟨(ad102.add ((((rd_T47 l0 x3_1).f2)).toNat * 4)).block, (ad102.add ((((rd_T47 l0 x3_1).f2)).toNat * 4)).off + 3, none⟩ = some (.int .i64 ((rd_T47 l0 ((rd_T47 l0 x3_1).f2)).f3)) ∧ w'.cell? (ad102.add ((((rd_T47 l0 x3_1).f2)).toNat * 4)) = some (.int .i64 ((rd_T47 l0 ((rd_T47 l0 x3_1).f2)).f0)) ∧ w'.cell? ⟨(ad102.add ((((rd_T47 l0 x3_1).f2)).toNat * 4)).block, (ad102.add ((((rd_T47 l0 x3_1).f2)).toNat * 4)).off + 1, none⟩ = some (.int .i64 ((rd_T47 l0 ((rd_T47 l0 x3_1).f2)).f1)) ∧ w'.cell? ⟨(ad102.add ((((rd_T47 l0 x3_1).f2)).toNat * 4)).block, (ad102.add ((((rd_T47 l0 x3_1).f2)).toNat * 4)).off + 2, none⟩ = some (.int .i64 ((rd_T47 l0 ((rd_T47 l0 x3_1).f2)).f2)) ∧ w'.cell? ⟨(ad102.add ((((rd_T47 l0 x3_1).f2)).toNat * 4)).block, (ad102.add ((((rd_T47 l0 x3_1).f2)).toNat * 4)).off + 3, none⟩ = some (.int .i64 ((rd_T47 l0 ((rd_T47 l0 x3_1).f2)).f3))) (ds := []) (bm 36 0) (by kernel_rfl) rfl (bm0 _) ⟨bc0 BK103, bc1 BK103, bc2 BK103, bc3 BK103, (hL HB hw107_0), (hL HB hw107_1), (hL HB hw107_2), (hL HB hw107_3), (hL HB hw108_0), (hL HB hw108_1), (hL HB hw108_2), (hL HB hw108_3), (hL HB hw109_0), (hL HB hw109_1), (hL HB hw109_2), (hL HB hw109_3)⟩ (fun hHeld => ?_); refine with_tabW spec_IsFormat.tab13 spec_IsFormat.bits13 (fun HT_ HW_ => ?_)
              generalize wc.drew = w28 at BK103 HB hx107_0 hx107_1 hx107_2 hx107_3 hx108_0 hx108_1 hx108_2 hx108_3 hx109_0 hx109_1 hx109_2 hx109_3 hHeld ⊢
              refine pU 0 (some 36) (bm 36 1) HT_ rfl rfl ?_
              refine pU 2 (some 38) (bm 36 5) HT_ rfl rfl ?_
              refine pU 3 (some 39) (bm 36 13) HT_ rfl rfl ?_
              refine tU 1 (some 37) (bm 36 15) HT_ HW_ rfl rfl hHeld ?_
              refine one_ (i := 4) (N := some 40) (bm 36 31) rfl rfl (one_of HT_.out (by kernel_rfl)) (by decide) (fun K hK => ?_)
              refine goes_ Try.func49 (by kernel_rfl) rfl #[.int .i64 ((rd_T47 l0 x3_1).f2), .int .i64 0, .int .i64 (wrap64 (x3_1 - 1))] (by rfl) rfl rfl zG ?_
              with_reducible refine (spec_l1In.calls ((rd_T47 l0 x3_1).f2) 0 (wrap64 (x3_1 - 1)) true _ A19.out).mono ?_
              rintro e w' ⟨rfl, ⟨nd, rfl⟩⟩
              refine ⟨_, rfl, ?_⟩
              refine hK.out _ _ ⟨bc0 BK103, bc1 BK103, bc2 BK103, bc3 BK103, (hL HB hw107_0), (hL HB hw107_1), (hL HB hw107_2), (hL HB hw107_3), (hL HB hw108_0), (hL HB hw108_1), (hL HB hw108_2), (hL HB hw108_3), (hL HB hw109_0), (hL HB hw109_1), (hL HB hw109_2), (hL HB hw109_3)⟩ (fun hHeld => ?_)
              clear hK K
              refine norm_ (a' := ?_) ?_ ?_
              rotate_left
              ·show Act.put _ (some 40) _ = _
               simp only [Act.put, List.setIfInBounds_toArray, List.set_cons_zero, List.set_cons_succ, i64_w, i32_w]
               rfl
              refine pU 5 (some 41) (bm 36 63) HT_ rfl rfl ?_
              refine pU 6 (some 42) (bm 36 127) HT_ rfl rfl ?_
              refine pU 7 (some 43) (bm 36 255) HT_ rfl rfl ?_
              refine pU 8 (some 44) (bm 36 511) HT_ rfl rfl ?_
              refine tU 9 (some 45) (bm 36 1023) HT_ HW_ rfl rfl hHeld ?_
              refine pU 10 (some 46) (bm 36 2047) HT_ rfl rfl ?_
              refine pU 11 (some 47) (bm 36 4095) HT_ rfl rfl ?_
              refine tU 12 (some 48) (bm 36 8191) HT_ HW_ rfl rfl hHeld ?_
              refine pU 13 (some 49) (bm 36 16383) HT_ rfl rfl ?_
              refine pU 14 (some 50) (bm 36 32767) HT_ rfl rfl ?_
              refine pU 15 (some 51) (bm 36 65535) HT_ rfl rfl ?_
              refine pU 16 (some 52) (bm 36 131071) HT_ rfl rfl ?_
              refine pU 17 (some 53) (bm 36 262143) HT_ rfl rfl ?_
              refine tU 18 (some 54) (bm 36 524287) HT_ HW_ rfl rfl hHeld ?_
              refine pU 19 (some 55) (bm 36 1048575) HT_ rfl rfl ?_
              refine pU 20 (some 56) (bm 36 2097151) HT_ rfl rfl ?_
              refine tU 21 (some 57) (bm 36 4194303) HT_ HW_ rfl rfl hHeld ?_
              refine pU 22 (some 58) (bm 36 8388607) HT_ rfl rfl ?_
              refine pU 23 (some 59) (bm 36 16777215) HT_ rfl rfl ?_
              refine pU 24 (some 60) (bm 36 33554431) HT_ rfl rfl ?_
              refine pU 25 (some 61) (bm 36 67108863) HT_ rfl rfl ?_
              refine pU 27 (some 63) (bm 36 201326591) HT_ rfl rfl ?_
              refine pU 28 (some 64) (bm 36 469762047) HT_ rfl rfl ?_
              refine tU 26 (some 62) (bm 36 536870911) HT_ HW_ rfl rfl hHeld ?_
              refine tU 29 (some 65) (bm 36 1073741823) HT_ HW_ rfl rfl hHeld ?_
              refine pU 30 (some 66) (bm 36 2147483647) HT_ rfl rfl ?_
              refine pU 31 (some 67) (bm 36 4294967295) HT_ rfl rfl ?_
              refine tU 32 (some 68) (bm 36 8589934591) HT_ HW_ rfl rfl hHeld ?_
              refine one_ (i := 33) (N := some 69) (bm 36 17179869183) rfl rfl (one_of HT_.out (by kernel_rfl)) (by decide) (fun K hK => ?_)
              refine goes_ Try.func49 (by kernel_rfl) rfl #[.int .i64 ((rd_T47 l0 x3_1).f3), .int .i64 0, .int .i64 ((rd_T47 l0 ((rd_T47 l0 x3_1).f2)).f1)] (by rfl) rfl rfl zG ?_
              with_reducible refine (spec_l1In.calls ((rd_T47 l0 x3_1).f3) 0 ((rd_T47 l0 ((rd_T47 l0 x3_1).f2)).f1) true _ A25.out).mono ?_
              rintro e w' ⟨rfl, ⟨nd, rfl⟩⟩
              refine ⟨_, rfl, ?_⟩
              refine hK.out _ _ ⟨bc0 BK103, bc1 BK103, bc2 BK103, bc3 BK103, (hL HB hw107_0), (hL HB hw107_1), (hL HB hw107_2), (hL HB hw107_3), (hL HB hw108_0), (hL HB hw108_1), (hL HB hw108_2), (hL HB hw108_3), (hL HB hw109_0), (hL HB hw109_1), (hL HB hw109_2), (hL HB hw109_3)⟩ (fun hHeld => ?_)
              clear hK K
              refine norm_ (a' := ?_) ?_ ?_
              rotate_left
              ·show Act.put _ (some 69) _ = _
               simp only [Act.put, List.setIfInBounds_toArray, List.set_cons_zero, List.set_cons_succ, i64_w, i32_w]
               rfl
              refine pU 34 (some 70) (bm 36 34359738367) HT_ rfl rfl ?_
              refine pU 35 (some 71) (bm 36 68719476735) HT_ rfl rfl ?_
              refine done_ (done_of HT_.out (by kernel_rfl)) ?_
              try clear hHeld
              try go_wp2
              go_roundg kj7
              case measure => have := HK1.out; have := HJ3.out; have := HJ7.out; omega
              case rel => exact ⟨(wrap64 (x3_1 + 1)), zF, H', ⟨by have := HK1.out; have := HJ3.out; have := HJ7.out; omega⟩, ⟨zB HB⟩⟩
             ·replace c26 := Bool.eq_false_iff.mpr c26
              subst c26
              have H1 : (some false) = some r := by rw [if_neg (show ¬ (false = true) by decide)] at H; exact H
              clear H
              have H := H1
              clear H1
              obtain rfl := Option.some.inj H
              have hcz29_0 := bc0 BK103
              have hcz29_1 := bc1 BK103
              have hcz29_2 := bc2 BK103
              have hcz29_3 := bc3 BK103
              have hfz29_0 := bf BK103 0
              have hfz29_1 := bf BK103 1
              have hfz29_2 := bf BK103 2
              have hfz29_3 := bf BK103 3
              try go_wp2
              replace BK103 := Aside0.mk (blk_drew BK103.out)
              replace HB := Aside0.mk (below_drew1 HB.out)
              have p107 : 0 ≤ (((rd_T47 l0 x3_1).f2) : Int) := zD
              have q107 : ((rd_T47 l0 x3_1).f2) < (l0.length : Int) := zD
              obtain ⟨ad107, e107, hx107_0, hx107_1, hx107_2, hx107_3⟩ := at_T47 HR0.out ((rd_T47 l0 x3_1).f2) p107 q107
              have hw107_3 := hx107_3
              have hw107_2 := hx107_2
              have hw107_1 := hx107_1
              have hw107_0 := hx107_0
              obtain rfl : ad102 = ad107 := (by injection e107)
              replace hx107_0 := hL HB hx107_0
              replace hx107_1 := hL HB hx107_1
              replace hx107_2 := hL HB hx107_2
              replace hx107_3 := hL HB hx107_3
              replace p107 := eq_true p107
              replace q107 := eq_true q107
              have p108 : 0 ≤ (((rd_T47 l0 x3_1).f2) : Int) := zD
              have q108 : ((rd_T47 l0 x3_1).f2) < (l0.length : Int) := zD
              obtain ⟨ad108, e108, hx108_0, hx108_1, hx108_2, hx108_3⟩ := at_T47 HR0.out ((rd_T47 l0 x3_1).f2) p108 q108
              have hw108_3 := hx108_3
              have hw108_2 := hx108_2
              have hw108_1 := hx108_1
              have hw108_0 := hx108_0
              obtain rfl : ad102 = ad108 := (by injection e108)
              replace hx108_0 := hL HB hx108_0
              replace hx108_1 := hL HB hx108_1
              replace hx108_2 := hL HB hx108_2
              replace hx108_3 := hL HB hx108_3
              replace p108 := eq_true p108
              replace q108 := eq_true q108
              have p109 : 0 ≤ (((rd_T47 l0 x3_1).f2) : Int) := zD
              have q109 : ((rd_T47 l0 x3_1).f2) < (l0.length : Int) := zD
              obtain ⟨ad109, e109, hx109_0, hx109_1, hx109_2, hx109_3⟩ := at_T47 HR0.out ((rd_T47 l0 x3_1).f2) p109 q109
              have hw109_3 := hx109_3
              have hw109_2 := hx109_2
              have hw109_1 := hx109_1
              have hw109_0 := hx109_0
              obtain rfl : ad102 = ad109 := (by injection e109)
              replace hx109_0 := hL HB hx109_0
              replace hx109_1 := hL HB hx109_1
              replace hx109_2 := hL HB hx109_2
              replace hx109_3 := hL HB hx109_3
              replace p109 := eq_true p109
              replace q109 := eq_true q109
              refine start_ (n := 36) (S := fun w' => w'.cell? ⟨gb103, 0, none⟩ = some (.int .i64 ((rd_T47 l0 x3_1).f0)) ∧ w'.cell? ⟨gb103, 1, none⟩ = some (.int .i64 ((rd_T47 l0 x3_1).f1)) ∧ w'.cell? ⟨gb103, 2, none⟩ = some (.int .i64 ((rd_T47 l0 x3_1).f2)) ∧ w'.cell? ⟨gb103, 3, none⟩ = some (.int .i64 ((rd_T47 l0 x3_1).f3)) ∧ w'.cell? (ad102.add ((((rd_T47 l0 x3_1).f2)).toNat * 4)) = some (.int .i64 ((rd_T47 l0 ((rd_T47 l0 x3_1).f2)).f0)) ∧ w'.cell? ⟨(ad102.add ((((rd_T47 l0 x3_1).f2)).toNat * 4)).block, (ad102.add ((((rd_T47 l0 x3_1).f2)).toNat * 4)).off + 1, none⟩ = some (.int .i64 ((rd_T47 l0 ((rd_T47 l0 x3_1).f2)).f1)) ∧ w'.cell? ⟨(ad102.add ((((rd_T47 l0 x3_1).f2)).toNat * 4)).block, (ad102.add ((((rd_T47 l0 x3_1).f2)).toNat * 4)).off + 2, none⟩ = some (.int .i64 ((rd_T47 l0 ((rd_T47 l0 x3_1).f2)).f2)) ∧ w'.cell? ⟨(ad102.add ((((rd_T47 l0 x3_1).f2)).toNat * 4)).block, (ad102.add ((((rd_T47 l0 x3_1).f2)).toNat * 4)).off + 3, none⟩ = some (.int .i64 ((rd_T47 l0 ((rd_T47 l0 x3_1).f2)).f3)) ∧ w'.cell? (ad102.add ((((rd_T47 l0 x3_1).f2)).toNat * 4)) = some (.int .i64 ((rd_T47 l0 ((rd_T47 l0 x3_1).f2)).f0)) ∧ w'.cell? ⟨(ad102.add ((((rd_T47 l0 x3_1).f2)).toNat * 4)).block, (ad102.add ((((rd_T47 l0 x3_1).f2)).toNat * 4)).off + 1, none⟩ = some (.int .i64 ((rd_T47 l0 ((rd_T47 l0 x3_1).f2)).f1)) ∧ w'.cell? ⟨(ad102.add ((((rd_T47 l0 x3_1).f2)).toNat * 4)).block, (ad102.add ((((rd_T47 l0 x3_1).f2)).toNat * 4)).off + 2, none⟩ = some (.int .i64 ((rd_T47 l0 ((rd_T47 l0 x3_1).f2)).f2)) ∧ w'.cell? ⟨(ad102.add ((((rd_T47 l0 x3_1).f2)).toNat * 4)).block, (ad102.add ((((rd_T47 l0 x3_1).f2)).toNat * 4)).off + 3, none⟩ = some (.int .i64 ((rd_T47 l0 ((rd_T47 l0 x3_1).f2)).f3)) ∧ w'.cell? (ad102.add ((((rd_T47 l0 x3_1).f2)).toNat * 4)) = some (.int .i64 ((rd_T47 l0 ((rd_T47 l0 x3_1).f2)).f0)) ∧ w'.cell? ⟨(ad102.add ((((rd_T47 l0 x3_1).f2)).toNat * 4)).block, (ad102.add ((((rd_T47 l0 x3_1).f2)).toNat * 4)).off + 1, none⟩ = some (.int .i64 ((rd_T47 l0 ((rd_T47 l0 x3_1).f2)).f1)) ∧ w'.cell? ⟨(ad102.add ((((rd_T47 l0 x3_1).f2)).toNat * 4)).block, (ad102.add ((((rd_T47 l0 x3_1).f2)).toNat * 4)).off + 2, none⟩ = some (.int .i64 ((rd_T47 l0 ((rd_T47 l0 x3_1).f2)).f2)) ∧ w'.cell? ⟨(ad102.add ((((rd_T47 l0 x3_1).f2)).toNat * 4)).block, (ad102.add ((((rd_T47 l0 x3_1).f2)).toNat * 4)).off + 3, none⟩ = some (.int .i64 ((rd_T47 l0 ((rd_T47 l0 x3_1).f2)).f3))) (ds := []) (bm 36 0) (by kernel_rfl) rfl (bm0 _) ⟨bc0 BK103, bc1 BK103, bc2 BK103, bc3 BK103, (hL HB hw107_0), (hL HB hw107_1), (hL HB hw107_2), (hL HB hw107_3), (hL HB hw108_0), (hL HB hw108_1), (hL HB hw108_2), (hL HB hw108_3), (hL HB hw109_0), (hL HB hw109_1), (hL HB hw109_2), (hL HB hw109_3)⟩ (fun hHeld => ?_); refine with_tabW spec_IsFormat.tab13 spec_IsFormat.bits13 (fun HT_ HW_ => ?_)
              generalize wc.drew = w30 at BK103 HB hx107_0 hx107_1 hx107_2 hx107_3 hx108_0 hx108_1 hx108_2 hx108_3 hx109_0 hx109_1 hx109_2 hx109_3 hHeld ⊢
              refine pU 0 (some 36) (bm 36 1) HT_ rfl rfl ?_
              refine pU 2 (some 38) (bm 36 5) HT_ rfl rfl ?_
              refine pU 3 (some 39) (bm 36 13) HT_ rfl rfl ?_
              refine tU 1 (some 37) (bm 36 15) HT_ HW_ rfl rfl hHeld ?_
              refine one_ (i := 4) (N := some 40) (bm 36 31) rfl rfl (one_of HT_.out (by kernel_rfl)) (by decide) (fun K hK => ?_)
              refine goes_ Try.func49 (by kernel_rfl) rfl #[.int .i64 ((rd_T47 l0 x3_1).f2), .int .i64 0, .int .i64 (wrap64 (x3_1 - 1))] (by rfl) rfl rfl zG ?_
              with_reducible refine (spec_l1In.calls ((rd_T47 l0 x3_1).f2) 0 (wrap64 (x3_1 - 1)) true _ A19.out).mono ?_
              rintro e w' ⟨rfl, ⟨nd, rfl⟩⟩
              refine ⟨_, rfl, ?_⟩
              refine hK.out _ _ ⟨bc0 BK103, bc1 BK103, bc2 BK103, bc3 BK103, (hL HB hw107_0), (hL HB hw107_1), (hL HB hw107_2), (hL HB hw107_3), (hL HB hw108_0), (hL HB hw108_1), (hL HB hw108_2), (hL HB hw108_3), (hL HB hw109_0), (hL HB hw109_1), (hL HB hw109_2), (hL HB hw109_3)⟩ (fun hHeld => ?_)
              clear hK K
              refine norm_ (a' := ?_) ?_ ?_
              rotate_left
              ·show Act.put _ (some 40) _ = _
               simp only [Act.put, List.setIfInBounds_toArray, List.set_cons_zero, List.set_cons_succ, i64_w, i32_w]
               rfl
              refine pU 5 (some 41) (bm 36 63) HT_ rfl rfl ?_
              refine pU 6 (some 42) (bm 36 127) HT_ rfl rfl ?_
              refine pU 7 (some 43) (bm 36 255) HT_ rfl rfl ?_
              refine pU 8 (some 44) (bm 36 511) HT_ rfl rfl ?_
              refine tU 9 (some 45) (bm 36 1023) HT_ HW_ rfl rfl hHeld ?_
              refine pU 10 (some 46) (bm 36 2047) HT_ rfl rfl ?_
              refine pU 11 (some 47) (bm 36 4095) HT_ rfl rfl ?_
              refine tU 12 (some 48) (bm 36 8191) HT_ HW_ rfl rfl hHeld ?_
              refine pU 13 (some 49) (bm 36 16383) HT_ rfl rfl ?_
              refine pU 14 (some 50) (bm 36 32767) HT_ rfl rfl ?_
              refine pU 15 (some 51) (bm 36 65535) HT_ rfl rfl ?_
              refine pU 16 (some 52) (bm 36 131071) HT_ rfl rfl ?_
              refine pU 17 (some 53) (bm 36 262143) HT_ rfl rfl ?_
              refine tU 18 (some 54) (bm 36 524287) HT_ HW_ rfl rfl hHeld ?_
              refine pU 19 (some 55) (bm 36 1048575) HT_ rfl rfl ?_
              refine pU 20 (some 56) (bm 36 2097151) HT_ rfl rfl ?_
              refine tU 21 (some 57) (bm 36 4194303) HT_ HW_ rfl rfl hHeld ?_
              refine pU 22 (some 58) (bm 36 8388607) HT_ rfl rfl ?_
              refine pU 23 (some 59) (bm 36 16777215) HT_ rfl rfl ?_
              refine pU 24 (some 60) (bm 36 33554431) HT_ rfl rfl ?_
              refine pU 25 (some 61) (bm 36 67108863) HT_ rfl rfl ?_
              refine pU 27 (some 63) (bm 36 201326591) HT_ rfl rfl ?_
              refine pU 28 (some 64) (bm 36 469762047) HT_ rfl rfl ?_
              refine tU 26 (some 62) (bm 36 536870911) HT_ HW_ rfl rfl hHeld ?_
              refine tU 29 (some 65) (bm 36 1073741823) HT_ HW_ rfl rfl hHeld ?_
              refine pU 30 (some 66) (bm 36 2147483647) HT_ rfl rfl ?_
              refine pU 31 (some 67) (bm 36 4294967295) HT_ rfl rfl ?_
              refine tU 32 (some 68) (bm 36 8589934591) HT_ HW_ rfl rfl hHeld ?_
              refine one_ (i := 33) (N := some 69) (bm 36 17179869183) rfl rfl (one_of HT_.out (by kernel_rfl)) (by decide) (fun K hK => ?_)
              refine goes_ Try.func49 (by kernel_rfl) rfl #[.int .i64 ((rd_T47 l0 x3_1).f3), .int .i64 0, .int .i64 ((rd_T47 l0 ((rd_T47 l0 x3_1).f2)).f1)] (by rfl) rfl rfl zG ?_
              with_reducible refine (spec_l1In.calls ((rd_T47 l0 x3_1).f3) 0 ((rd_T47 l0 ((rd_T47 l0 x3_1).f2)).f1) false _ A25.out).mono ?_
              rintro e w' ⟨rfl, ⟨nd, rfl⟩⟩
              refine ⟨_, rfl, ?_⟩
              refine hK.out _ _ ⟨bc0 BK103, bc1 BK103, bc2 BK103, bc3 BK103, (hL HB hw107_0), (hL HB hw107_1), (hL HB hw107_2), (hL HB hw107_3), (hL HB hw108_0), (hL HB hw108_1), (hL HB hw108_2), (hL HB hw108_3), (hL HB hw109_0), (hL HB hw109_1), (hL HB hw109_2), (hL HB hw109_3)⟩ (fun hHeld => ?_)
              clear hK K
              refine norm_ (a' := ?_) ?_ ?_
              rotate_left
              ·show Act.put _ (some 69) _ = _
               simp only [Act.put, List.setIfInBounds_toArray, List.set_cons_zero, List.set_cons_succ, i64_w, i32_w]
               rfl
              refine pU 34 (some 70) (bm 36 34359738367) HT_ rfl rfl ?_
              refine pU 35 (some 71) (bm 36 68719476735) HT_ rfl rfl ?_
              refine done_ (done_of HT_.out (by kernel_rfl)) ?_
              try clear hHeld
              try go_wp2
              go_ret
              exact ⟨zE, zB HB⟩
            ·rw [if_neg c24] at H
             have c24b0 : (((rd_T47 l0 ((rd_T47 l0 x3_1).f2)).f2) == (-1)) = false := beq_eq_false_iff_ne.mpr c24
             have c24b1 : (((rd_T47 l0 ((rd_T47 l0 x3_1).f2)).f2) != (-1)) = true := bne_iff_ne.mpr c24
             obtain rfl := Option.some.inj H
             have hcz31_0 := bc0 BK103
             have hcz31_1 := bc1 BK103
             have hcz31_2 := bc2 BK103
             have hcz31_3 := bc3 BK103
             have hfz31_0 := bf BK103 0
             have hfz31_1 := bf BK103 1
             have hfz31_2 := bf BK103 2
             have hfz31_3 := bf BK103 3
             try go_wp2
             replace BK103 := Aside0.mk (blk_drew BK103.out)
             replace HB := Aside0.mk (below_drew1 HB.out)
             have p107 : 0 ≤ (((rd_T47 l0 x3_1).f2) : Int) := zD
             have q107 : ((rd_T47 l0 x3_1).f2) < (l0.length : Int) := zD
             obtain ⟨ad107, e107, hx107_0, hx107_1, hx107_2, hx107_3⟩ := at_T47 HR0.out ((rd_T47 l0 x3_1).f2) p107 q107
             have hw107_3 := hx107_3
             have hw107_2 := hx107_2
             have hw107_1 := hx107_1
             have hw107_0 := hx107_0
             obtain rfl : ad102 = ad107 := (by injection e107)
             replace hx107_0 := hL HB hx107_0
             replace hx107_1 := hL HB hx107_1
             replace hx107_2 := hL HB hx107_2
             replace hx107_3 := hL HB hx107_3
             replace p107 := eq_true p107
             replace q107 := eq_true q107
             have p108 : 0 ≤ (((rd_T47 l0 x3_1).f2) : Int) := zD
             have q108 : ((rd_T47 l0 x3_1).f2) < (l0.length : Int) := zD
             obtain ⟨ad108, e108, hx108_0, hx108_1, hx108_2, hx108_3⟩ := at_T47 HR0.out ((rd_T47 l0 x3_1).f2) p108 q108
             have hw108_3 := hx108_3
             have hw108_2 := hx108_2
             have hw108_1 := hx108_1
             have hw108_0 := hx108_0
             obtain rfl : ad102 = ad108 := (by injection e108)
             replace hx108_0 := hL HB hx108_0
             replace hx108_1 := hL HB hx108_1
             replace hx108_2 := hL HB hx108_2
             replace hx108_3 := hL HB hx108_3
             replace p108 := eq_true p108
             replace q108 := eq_true q108
             refine start_ (n := 36) (S := fun w' => w'.cell? ⟨gb103, 0, none⟩ = some (.int .i64 ((rd_T47 l0 x3_1).f0)) ∧ w'.cell? ⟨gb103, 1, none⟩ = some (.int .i64 ((rd_T47 l0 x3_1).f1)) ∧ w'.cell? ⟨gb103, 2, none⟩ = some (.int .i64 ((rd_T47 l0 x3_1).f2)) ∧ w'.cell? ⟨gb103, 3, none⟩ = some (.int .i64 ((rd_T47 l0 x3_1).f3)) ∧ w'.cell? (ad102.add ((((rd_T47 l0 x3_1).f2)).toNat * 4)) = some (.int .i64 ((rd_T47 l0 ((rd_T47 l0 x3_1).f2)).f0)) ∧ w'.cell? ⟨(ad102.add ((((rd_T47 l0 x3_1).f2)).toNat * 4)).block, (ad102.add ((((rd_T47 l0 x3_1).f2)).toNat * 4)).off + 1, none⟩ = some (.int .i64 ((rd_T47 l0 ((rd_T47 l0 x3_1).f2)).f1)) ∧ w'.cell? ⟨(ad102.add ((((rd_T47 l0 x3_1).f2)).toNat * 4)).block, (ad102.add ((((rd_T47 l0 x3_1).f2)).toNat * 4)).off + 2, none⟩ = some (.int .i64 ((rd_T47 l0 ((rd_T47 l0 x3_1).f2)).f2)) ∧ w'.cell? ⟨(ad102.add ((((rd_T47 l0 x3_1).f2)).toNat * 4)).block, (ad102.add ((((rd_T47 l0 x3_1).f2)).toNat * 4)).off + 3, none⟩ = some (.int .i64 ((rd_T47 l0 ((rd_T47 l0 x3_1).f2)).f3)) ∧ w'.cell? (ad102.add ((((rd_T47 l0 x3_1).f2)).toNat * 4)) = some (.int .i64 ((rd_T47 l0 ((rd_T47 l0 x3_1).f2)).f0)) ∧ w'.cell? ⟨(ad102.add ((((rd_T47 l0 x3_1).f2)).toNat * 4)).block, (ad102.add ((((rd_T47 l0 x3_1).f2)).toNat * 4)).off + 1, none⟩ = some (.int .i64 ((rd_T47 l0 ((rd_T47 l0 x3_1).f2)).f1)) ∧ w'.cell? ⟨(ad102.add ((((rd_T47 l0 x3_1).f2)).toNat * 4)).block, (ad102.add ((((rd_T47 l0 x3_1).f2)).toNat * 4)).off + 2, none⟩ = some (.int .i64 ((rd_T47 l0 ((rd_T47 l0 x3_1).f2)).f2)) ∧ w'.cell? ⟨(ad102.add ((((rd_T47 l0 x3_1).f2)).toNat * 4)).block, (ad102.add ((((rd_T47 l0 x3_1).f2)).toNat * 4)).off + 3, none⟩ = some (.int .i64 ((rd_T47 l0 ((rd_T47 l0 x3_1).f2)).f3))) (ds := []) (bm 36 0) (by kernel_rfl) rfl (bm0 _) ⟨bc0 BK103, bc1 BK103, bc2 BK103, bc3 BK103, (hL HB hw107_0), (hL HB hw107_1), (hL HB hw107_2), (hL HB hw107_3), (hL HB hw108_0), (hL HB hw108_1), (hL HB hw108_2), (hL HB hw108_3)⟩ (fun hHeld => ?_); refine with_tabW spec_IsFormat.tab13 spec_IsFormat.bits13 (fun HT_ HW_ => ?_)
             generalize wc.drew = w32 at BK103 HB hx107_0 hx107_1 hx107_2 hx107_3 hx108_0 hx108_1 hx108_2 hx108_3 hHeld ⊢
             refine pU 0 (some 36) (bm 36 1) HT_ rfl rfl ?_
             refine pU 2 (some 38) (bm 36 5) HT_ rfl rfl ?_
             refine pU 3 (some 39) (bm 36 13) HT_ rfl rfl ?_
             refine tU 1 (some 37) (bm 36 15) HT_ HW_ rfl rfl hHeld ?_
             refine one_ (i := 4) (N := some 40) (bm 36 31) rfl rfl (one_of HT_.out (by kernel_rfl)) (by decide) (fun K hK => ?_)
             refine goes_ Try.func49 (by kernel_rfl) rfl #[.int .i64 ((rd_T47 l0 x3_1).f2), .int .i64 0, .int .i64 (wrap64 (x3_1 - 1))] (by rfl) rfl rfl zG ?_
             with_reducible refine (spec_l1In.calls ((rd_T47 l0 x3_1).f2) 0 (wrap64 (x3_1 - 1)) true _ A19.out).mono ?_
             rintro e w' ⟨rfl, ⟨nd, rfl⟩⟩
             refine ⟨_, rfl, ?_⟩
             refine hK.out _ _ ⟨bc0 BK103, bc1 BK103, bc2 BK103, bc3 BK103, (hL HB hw107_0), (hL HB hw107_1), (hL HB hw107_2), (hL HB hw107_3), (hL HB hw108_0), (hL HB hw108_1), (hL HB hw108_2), (hL HB hw108_3)⟩ (fun hHeld => ?_)
             clear hK K
             refine norm_ (a' := ?_) ?_ ?_
             rotate_left
             ·show Act.put _ (some 40) _ = _
              simp only [Act.put, List.setIfInBounds_toArray, List.set_cons_zero, List.set_cons_succ, i64_w, i32_w]
              rfl
             refine pU 5 (some 41) (bm 36 63) HT_ rfl rfl ?_
             refine pU 6 (some 42) (bm 36 127) HT_ rfl rfl ?_
             refine pU 7 (some 43) (bm 36 255) HT_ rfl rfl ?_
             refine pU 8 (some 44) (bm 36 511) HT_ rfl rfl ?_
             refine tU 9 (some 45) (bm 36 1023) HT_ HW_ rfl rfl hHeld ?_
             refine pU 10 (some 46) (bm 36 2047) HT_ rfl rfl ?_
             refine pU 11 (some 47) (bm 36 4095) HT_ rfl rfl ?_
             refine tU 12 (some 48) (bm 36 8191) HT_ HW_ rfl rfl hHeld ?_
             refine pU 13 (some 49) (bm 36 16383) HT_ rfl rfl ?_
             refine pU 14 (some 50) (bm 36 32767) HT_ rfl rfl ?_
             refine pU 15 (some 51) (bm 36 65535) HT_ rfl rfl ?_
             refine pU 16 (some 52) (bm 36 131071) HT_ rfl rfl ?_
             refine pU 17 (some 53) (bm 36 262143) HT_ rfl rfl ?_
             refine tU 18 (some 54) (bm 36 524287) HT_ HW_ rfl rfl hHeld ?_
             refine pU 19 (some 55) (bm 36 1048575) HT_ rfl rfl ?_
             refine pU 20 (some 56) (bm 36 2097151) HT_ rfl rfl ?_
             refine tU 21 (some 57) (bm 36 4194303) HT_ HW_ rfl rfl hHeld ?_
             refine pU 22 (some 58) (bm 36 8388607) HT_ rfl rfl ?_
             refine pU 23 (some 59) (bm 36 16777215) HT_ rfl rfl ?_
             refine pU 24 (some 60) (bm 36 33554431) HT_ rfl rfl ?_
             refine pV 25 (some 61) (bm 36 67108863) HT_ rfl rfl ?_
             refine pV 26 (some 62) (bm 36 134217727) HT_ rfl rfl ?_
             refine pV 27 (some 63) (bm 36 268435455) HT_ rfl rfl ?_
             refine pV 28 (some 64) (bm 36 536870911) HT_ rfl rfl ?_
             refine pV 29 (some 65) (bm 36 1073741823) HT_ rfl rfl ?_
             refine pV 30 (some 66) (bm 36 2147483647) HT_ rfl rfl ?_
             refine pV 31 (some 67) (bm 36 4294967295) HT_ rfl rfl ?_
             refine pV 32 (some 68) (bm 36 8589934591) HT_ rfl rfl ?_
             refine pV 33 (some 69) (bm 36 17179869183) HT_ rfl rfl ?_
             refine pV 34 (some 70) (bm 36 34359738367) HT_ rfl rfl ?_
             refine pU 35 (some 71) (bm 36 68719476735) HT_ rfl rfl ?_
             refine done_ (done_of HT_.out (by kernel_rfl)) ?_
             try clear hHeld
             try go_wp2
             go_ret
             exact ⟨zE, zB HB⟩
           ·rw [if_neg c23] at H
            have c23b0 : (((rd_T47 l0 ((rd_T47 l0 x3_1).f2)).f0) == 1) = false := beq_eq_false_iff_ne.mpr c23
            have c23b1 : (((rd_T47 l0 ((rd_T47 l0 x3_1).f2)).f0) != 1) = true := bne_iff_ne.mpr c23
            obtain rfl := Option.some.inj H
            have hcz33_0 := bc0 BK103
            have hcz33_1 := bc1 BK103
            have hcz33_2 := bc2 BK103
            have hcz33_3 := bc3 BK103
            have hfz33_0 := bf BK103 0
            have hfz33_1 := bf BK103 1
            have hfz33_2 := bf BK103 2
            have hfz33_3 := bf BK103 3
            try go_wp2
            replace BK103 := Aside0.mk (blk_drew BK103.out)
            replace HB := Aside0.mk (below_drew1 HB.out)
            have p107 : 0 ≤ (((rd_T47 l0 x3_1).f2) : Int) := zD
            have q107 : ((rd_T47 l0 x3_1).f2) < (l0.length : Int) := zD
            obtain ⟨ad107, e107, hx107_0, hx107_1, hx107_2, hx107_3⟩ := at_T47 HR0.out ((rd_T47 l0 x3_1).f2) p107 q107
            have hw107_3 := hx107_3
            have hw107_2 := hx107_2
            have hw107_1 := hx107_1
            have hw107_0 := hx107_0
            obtain rfl : ad102 = ad107 := (by injection e107)
            replace hx107_0 := hL HB hx107_0
            replace hx107_1 := hL HB hx107_1
            replace hx107_2 := hL HB hx107_2
            replace hx107_3 := hL HB hx107_3
            replace p107 := eq_true p107
            replace q107 := eq_true q107
            refine start_ (n := 36) (S := fun w' => w'.cell? ⟨gb103, 0, none⟩ = some (.int .i64 ((rd_T47 l0 x3_1).f0)) ∧ w'.cell? ⟨gb103, 1, none⟩ = some (.int .i64 ((rd_T47 l0 x3_1).f1)) ∧ w'.cell? ⟨gb103, 2, none⟩ = some (.int .i64 ((rd_T47 l0 x3_1).f2)) ∧ w'.cell? ⟨gb103, 3, none⟩ = some (.int .i64 ((rd_T47 l0 x3_1).f3)) ∧ w'.cell? (ad102.add ((((rd_T47 l0 x3_1).f2)).toNat * 4)) = some (.int .i64 ((rd_T47 l0 ((rd_T47 l0 x3_1).f2)).f0)) ∧ w'.cell? ⟨(ad102.add ((((rd_T47 l0 x3_1).f2)).toNat * 4)).block, (ad102.add ((((rd_T47 l0 x3_1).f2)).toNat * 4)).off + 1, none⟩ = some (.int .i64 ((rd_T47 l0 ((rd_T47 l0 x3_1).f2)).f1)) ∧ w'.cell? ⟨(ad102.add ((((rd_T47 l0 x3_1).f2)).toNat * 4)).block, (ad102.add ((((rd_T47 l0 x3_1).f2)).toNat * 4)).off + 2, none⟩ = some (.int .i64 ((rd_T47 l0 ((rd_T47 l0 x3_1).f2)).f2)) ∧ w'.cell? ⟨(ad102.add ((((rd_T47 l0 x3_1).f2)).toNat * 4)).block, (ad102.add ((((rd_T47 l0 x3_1).f2)).toNat * 4)).off + 3, none⟩ = some (.int .i64 ((rd_T47 l0 ((rd_T47 l0 x3_1).f2)).f3))) (ds := []) (bm 36 0) (by kernel_rfl) rfl (bm0 _) ⟨bc0 BK103, bc1 BK103, bc2 BK103, bc3 BK103, (hL HB hw107_0), (hL HB hw107_1), (hL HB hw107_2), (hL HB hw107_3)⟩ (fun hHeld => ?_); refine with_tabW spec_IsFormat.tab13 spec_IsFormat.bits13 (fun HT_ HW_ => ?_)
            generalize wc.drew = w34 at BK103 HB hx107_0 hx107_1 hx107_2 hx107_3 hHeld ⊢
            refine pU 0 (some 36) (bm 36 1) HT_ rfl rfl ?_
            refine pU 2 (some 38) (bm 36 5) HT_ rfl rfl ?_
            refine pU 3 (some 39) (bm 36 13) HT_ rfl rfl ?_
            refine tU 1 (some 37) (bm 36 15) HT_ HW_ rfl rfl hHeld ?_
            refine one_ (i := 4) (N := some 40) (bm 36 31) rfl rfl (one_of HT_.out (by kernel_rfl)) (by decide) (fun K hK => ?_)
            refine goes_ Try.func49 (by kernel_rfl) rfl #[.int .i64 ((rd_T47 l0 x3_1).f2), .int .i64 0, .int .i64 (wrap64 (x3_1 - 1))] (by rfl) rfl rfl zG ?_
            with_reducible refine (spec_l1In.calls ((rd_T47 l0 x3_1).f2) 0 (wrap64 (x3_1 - 1)) true _ A19.out).mono ?_
            rintro e w' ⟨rfl, ⟨nd, rfl⟩⟩
            refine ⟨_, rfl, ?_⟩
            refine hK.out _ _ ⟨bc0 BK103, bc1 BK103, bc2 BK103, bc3 BK103, (hL HB hw107_0), (hL HB hw107_1), (hL HB hw107_2), (hL HB hw107_3)⟩ (fun hHeld => ?_)
            clear hK K
            refine norm_ (a' := ?_) ?_ ?_
            rotate_left
            ·show Act.put _ (some 40) _ = _
             simp only [Act.put, List.setIfInBounds_toArray, List.set_cons_zero, List.set_cons_succ, i64_w, i32_w]
             rfl
            refine pU 5 (some 41) (bm 36 63) HT_ rfl rfl ?_
            refine pU 6 (some 42) (bm 36 127) HT_ rfl rfl ?_
            refine pU 7 (some 43) (bm 36 255) HT_ rfl rfl ?_
            refine pU 8 (some 44) (bm 36 511) HT_ rfl rfl ?_
            refine tU 9 (some 45) (bm 36 1023) HT_ HW_ rfl rfl hHeld ?_
            refine pU 10 (some 46) (bm 36 2047) HT_ rfl rfl ?_
            refine pU 11 (some 47) (bm 36 4095) HT_ rfl rfl ?_
            refine tU 12 (some 48) (bm 36 8191) HT_ HW_ rfl rfl hHeld ?_
            refine pU 13 (some 49) (bm 36 16383) HT_ rfl rfl ?_
            refine pU 14 (some 50) (bm 36 32767) HT_ rfl rfl ?_
            refine pU 15 (some 51) (bm 36 65535) HT_ rfl rfl ?_
            refine pV 16 (some 52) (bm 36 131071) HT_ rfl rfl ?_
            refine pV 17 (some 53) (bm 36 262143) HT_ rfl rfl ?_
            refine pV 18 (some 54) (bm 36 524287) HT_ rfl rfl ?_
            refine pV 19 (some 55) (bm 36 1048575) HT_ rfl rfl ?_
            refine pV 20 (some 56) (bm 36 2097151) HT_ rfl rfl ?_
            refine pV 21 (some 57) (bm 36 4194303) HT_ rfl rfl ?_
            refine pV 22 (some 58) (bm 36 8388607) HT_ rfl rfl ?_
            refine pU 23 (some 59) (bm 36 16777215) HT_ rfl rfl ?_
            refine pU 24 (some 60) (bm 36 33554431) HT_ rfl rfl ?_
            refine pV 25 (some 61) (bm 36 67108863) HT_ rfl rfl ?_
            refine pV 26 (some 62) (bm 36 134217727) HT_ rfl rfl ?_
            refine pV 27 (some 63) (bm 36 268435455) HT_ rfl rfl ?_
            refine pV 28 (some 64) (bm 36 536870911) HT_ rfl rfl ?_
            refine pV 29 (some 65) (bm 36 1073741823) HT_ rfl rfl ?_
            refine pV 30 (some 66) (bm 36 2147483647) HT_ rfl rfl ?_
            refine pV 31 (some 67) (bm 36 4294967295) HT_ rfl rfl ?_
            refine pV 32 (some 68) (bm 36 8589934591) HT_ rfl rfl ?_
            refine pV 33 (some 69) (bm 36 17179869183) HT_ rfl rfl ?_
            refine pV 34 (some 70) (bm 36 34359738367) HT_ rfl rfl ?_
            refine pU 35 (some 71) (bm 36 68719476735) HT_ rfl rfl ?_
            refine done_ (done_of HT_.out (by kernel_rfl)) ?_
            try clear hHeld
            try go_wp2
            go_ret
            exact ⟨zE, zB HB⟩
          ·replace c20 := Bool.eq_false_iff.mpr c20
           subst c20
           have H1 : (some false) = some r := by rw [if_neg (show ¬ (false = true) by decide)] at H; exact H
           clear H
           have H := H1
           clear H1
           obtain rfl := Option.some.inj H
           have hcz35_0 := bc0 BK103
           have hcz35_1 := bc1 BK103
           have hcz35_2 := bc2 BK103
           have hcz35_3 := bc3 BK103
           have hfz35_0 := bf BK103 0
           have hfz35_1 := bf BK103 1
           have hfz35_2 := bf BK103 2
           have hfz35_3 := bf BK103 3
           try go_wp2
           replace BK103 := Aside0.mk (blk_drew BK103.out)
           replace HB := Aside0.mk (below_drew1 HB.out)
           refine start_ (n := 36) (S := fun w' => w'.cell? ⟨gb103, 0, none⟩ = some (.int .i64 ((rd_T47 l0 x3_1).f0)) ∧ w'.cell? ⟨gb103, 1, none⟩ = some (.int .i64 ((rd_T47 l0 x3_1).f1)) ∧ w'.cell? ⟨gb103, 2, none⟩ = some (.int .i64 ((rd_T47 l0 x3_1).f2)) ∧ w'.cell? ⟨gb103, 3, none⟩ = some (.int .i64 ((rd_T47 l0 x3_1).f3))) (ds := []) (bm 36 0) (by kernel_rfl) rfl (bm0 _) ⟨bc0 BK103, bc1 BK103, bc2 BK103, bc3 BK103⟩ (fun hHeld => ?_); refine with_tabW spec_IsFormat.tab13 spec_IsFormat.bits13 (fun HT_ HW_ => ?_)
           generalize wc.drew = w36 at BK103 HB hHeld ⊢
           refine pU 0 (some 36) (bm 36 1) HT_ rfl rfl ?_
           refine pU 2 (some 38) (bm 36 5) HT_ rfl rfl ?_
           refine pU 3 (some 39) (bm 36 13) HT_ rfl rfl ?_
           refine tU 1 (some 37) (bm 36 15) HT_ HW_ rfl rfl hHeld ?_
           refine one_ (i := 4) (N := some 40) (bm 36 31) rfl rfl (one_of HT_.out (by kernel_rfl)) (by decide) (fun K hK => ?_)
           refine goes_ Try.func49 (by kernel_rfl) rfl #[.int .i64 ((rd_T47 l0 x3_1).f2), .int .i64 0, .int .i64 (wrap64 (x3_1 - 1))] (by rfl) rfl rfl zG ?_
           with_reducible refine (spec_l1In.calls ((rd_T47 l0 x3_1).f2) 0 (wrap64 (x3_1 - 1)) false _ A19.out).mono ?_
           rintro e w' ⟨rfl, ⟨nd, rfl⟩⟩
           refine ⟨_, rfl, ?_⟩
           refine hK.out _ _ ⟨bc0 BK103, bc1 BK103, bc2 BK103, bc3 BK103⟩ (fun hHeld => ?_)
           clear hK K
           refine norm_ (a' := ?_) ?_ ?_
           rotate_left
           ·show Act.put _ (some 40) _ = _
            simp only [Act.put, List.setIfInBounds_toArray, List.set_cons_zero, List.set_cons_succ, i64_w, i32_w]
            rfl
           refine pU 5 (some 41) (bm 36 63) HT_ rfl rfl ?_
           refine pU 6 (some 42) (bm 36 127) HT_ rfl rfl ?_
           refine pV 7 (some 43) (bm 36 255) HT_ rfl rfl ?_
           refine pV 8 (some 44) (bm 36 511) HT_ rfl rfl ?_
           refine pV 9 (some 45) (bm 36 1023) HT_ rfl rfl ?_
           refine pV 10 (some 46) (bm 36 2047) HT_ rfl rfl ?_
           refine pV 11 (some 47) (bm 36 4095) HT_ rfl rfl ?_
           refine pV 12 (some 48) (bm 36 8191) HT_ rfl rfl ?_
           refine pV 13 (some 49) (bm 36 16383) HT_ rfl rfl ?_
           refine pU 14 (some 50) (bm 36 32767) HT_ rfl rfl ?_
           refine pU 15 (some 51) (bm 36 65535) HT_ rfl rfl ?_
           refine pV 16 (some 52) (bm 36 131071) HT_ rfl rfl ?_
           refine pV 17 (some 53) (bm 36 262143) HT_ rfl rfl ?_
           refine pV 18 (some 54) (bm 36 524287) HT_ rfl rfl ?_
           refine pV 19 (some 55) (bm 36 1048575) HT_ rfl rfl ?_
           refine pV 20 (some 56) (bm 36 2097151) HT_ rfl rfl ?_
           refine pV 21 (some 57) (bm 36 4194303) HT_ rfl rfl ?_
           refine pV 22 (some 58) (bm 36 8388607) HT_ rfl rfl ?_
           refine pU 23 (some 59) (bm 36 16777215) HT_ rfl rfl ?_
           refine pU 24 (some 60) (bm 36 33554431) HT_ rfl rfl ?_
           refine pV 25 (some 61) (bm 36 67108863) HT_ rfl rfl ?_
           refine pV 26 (some 62) (bm 36 134217727) HT_ rfl rfl ?_
           refine pV 27 (some 63) (bm 36 268435455) HT_ rfl rfl ?_
           refine pV 28 (some 64) (bm 36 536870911) HT_ rfl rfl ?_
           refine pV 29 (some 65) (bm 36 1073741823) HT_ rfl rfl ?_
           refine pV 30 (some 66) (bm 36 2147483647) HT_ rfl rfl ?_
           refine pV 31 (some 67) (bm 36 4294967295) HT_ rfl rfl ?_
           refine pV 32 (some 68) (bm 36 8589934591) HT_ rfl rfl ?_
           refine pV 33 (some 69) (bm 36 17179869183) HT_ rfl rfl ?_
           refine pV 34 (some 70) (bm 36 34359738367) HT_ rfl rfl ?_
           refine pU 35 (some 71) (bm 36 68719476735) HT_ rfl rfl ?_
           refine done_ (done_of HT_.out (by kernel_rfl)) ?_
           try clear hHeld
           try go_wp2
           go_ret
           exact ⟨zE, zB HB⟩
   ·rw [if_neg c2] at H
    have c2b0 : decide (x3_1 < (l0.length : Int)) = false := decide_eq_false c2
    clear c2
    obtain ⟨t101, A37, H⟩ := bindS H
    obtain rfl := Option.some.inj H
    go_wp2_with (first | ((with_reducible refine gate_callee (f := 49) rfl ?_); refine goesL_ (some 74) rfl rfl Try.func49 (by kernel_rfl) rfl #[.int .i64 (l0.length : Int), .int .i64 1, .int .i64 6] rfl zG ?_; (with_reducible refine (spec_l1In.calls (l0.length : Int) 1 6 t101 _ A37.out).mono ?_); rintro e w' ⟨rfl, ⟨nd, rfl⟩⟩; refine ⟨_, rfl, ?_⟩))
    go_ret
    exact ⟨zE, zB HB⟩

end Go.Proofs.Yticpmgofegaaeaa.PFnExactSkipsTail
