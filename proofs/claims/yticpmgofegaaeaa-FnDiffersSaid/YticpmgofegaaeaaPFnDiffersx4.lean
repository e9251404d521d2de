-- WRITTEN by pp.py, this session's own wrapper around the print; not trusted: Lean checks it
import Derived.Test.YticpmgofegaaeaaPFnDiffersx0
import Derived.Test.YticpmgofegaaeaaPFnDiffersx2
import Derived.Test.YticpmgofegaaeaaPFnDiffersx3
namespace Go.Proofs.Yticpmgofegaaeaa.PFnDiffers
open Go.RowKit Go.Proofs.Yticpmgofegaaeaa.Hw Go.Proofs.YticpmgofegaaeaaW.PrintWords Go.Proofs.YticpmgofegaaeaaW.PrintLast Go.Proofs.YticpmgofegaaeaaW.PrintMore
attribute [local go_sem] max2_int min2_int max_two min_two max_three min_three max_four min_four   -- for this text's walks alone
set_option linter.unusedVariables false
set_option linter.unusedSimpArgs false
set_option linter.unusedSectionVars false

/-! ### impl_FitsFormat: function 55 -/
mutual
def impl_FitsFormat.j0 : Nat → List (S47) → List (S58) → Bool → Option (Bool)
 | 0, _, _, _ => none
 | k + 1, x0, x1, x16 => if x16 = true then (some false) else (impl_FitsFormat.l0 k x0 x1 x0 (x0.length : Int) 0)
def impl_FitsFormat.l0 : Nat → List (S47) → List (S58) → List (S47) → Int → Int → Option (Bool)
 | 0, _, _, _, _, _ => none
 | k + 1, x0, x1, x17, x18, x19 => if x19 < x18 then (if 0 ≤ x19 then (if x19 < (x17.length : Int) then ((impl_IsThere.f x0 x1 x19).bind fun t162 => (if t162 = true then (if x19 < (x1.length : Int) then ((impl_FitsField.f ((rd_T47 x17 x19).f0) ((rd_T47 x17 x19).f1) ((rd_T47 x17 x19).f2) ((rd_T47 x17 x19).f3) ((rd_T58 x1 x19).f0) ((rd_T58 x1 x19).f1)).bind fun t164 => (if t164 = true then ((impl_IsThere.f x0 x1 x19).bind fun t165 => (if t165 = true then (impl_FitsFormat.l0 k x0 x1 x17 x18 (wrap64 (x19 + 1))) else (if ((rd_T58 x1 x19).f0) = 0 then (if (((rd_T58 x1 x19).f1).length : Int) > 0 then (some false) else (impl_FitsFormat.l0 k x0 x1 x17 x18 (wrap64 (x19 + 1)))) else (some false)))) else (some false))) else (none)) else ((impl_IsThere.f x0 x1 x19).bind fun t168 => (if t168 = true then (impl_FitsFormat.l0 k x0 x1 x17 x18 (wrap64 (x19 + 1))) else (if x19 < (x1.length : Int) then (if ((rd_T58 x1 x19).f0) = 0 then (if (((rd_T58 x1 x19).f1).length : Int) > 0 then (some false) else (impl_FitsFormat.l0 k x0 x1 x17 x18 (wrap64 (x19 + 1)))) else (some false)) else (none)))))) else (none)) else (none)) else (some true)
end
def impl_FitsFormat.f (k : Nat) (l0 : List (S47)) (l1 : List (S58)) : Option (Bool) := (impl_IsFormat.f k l0).bind fun t159 => (if t159 = true then (impl_FitsFormat.j0 k l0 l1 ((l0.length : Int) != (l1.length : Int))) else (impl_FitsFormat.j0 k l0 l1 true))
theorem impl_FitsFormat.mono_l : ∀ k, (∀ y0 y1 y2, LeO (impl_FitsFormat.j0 k y0 y1 y2) (impl_FitsFormat.j0 (k + 1) y0 y1 y2)) ∧ (∀ y0 y1 y2 y3 y4, LeO (impl_FitsFormat.l0 k y0 y1 y2 y3 y4) (impl_FitsFormat.l0 (k + 1) y0 y1 y2 y3 y4))
 | 0 => ⟨fun _ _ _ r h => by simp [impl_FitsFormat.j0] at h, fun _ _ _ _ _ r h => by simp [impl_FitsFormat.l0] at h⟩
 | k + 1 => by
  obtain ⟨ih0, ih1⟩ := impl_FitsFormat.mono_l k
  refine ⟨?_, ?_⟩
  ·intro y0 y1 y2
   unfold impl_FitsFormat.j0
   repeat' first
   | (with_reducible exact ih0 _ _ _)
   | (with_reducible exact ih1 _ _ _ _ _)
   | (with_reducible exact impl_IsFormat.mono _ _)
   | (with_reducible exact LeO.refl _)
   | (with_reducible exact LeO.none _)
   | (with_reducible refine LeO.ite ?_ ?_)
   | (with_reducible refine LeO.bind ?_ (fun _ => ?_))
   | exact ih0 _ _ _
   | exact ih1 _ _ _ _ _
   | exact impl_IsFormat.mono _ _
   | exact LeO.none _
   | refine LeO.ite ?_ ?_
   | refine LeO.bind ?_ (fun _ => ?_)
  ·intro y0 y1 y2 y3 y4
   unfold impl_FitsFormat.l0
   repeat' first
   | (with_reducible exact ih0 _ _ _)
   | (with_reducible exact ih1 _ _ _ _ _)
   | (with_reducible exact impl_IsFormat.mono _ _)
   | (with_reducible exact LeO.refl _)
   | (with_reducible exact LeO.none _)
   | (with_reducible refine LeO.ite ?_ ?_)
   | (with_reducible refine LeO.bind ?_ (fun _ => ?_))
   | exact ih0 _ _ _
   | exact ih1 _ _ _ _ _
   | exact impl_IsFormat.mono _ _
   | exact LeO.none _
   | refine LeO.ite ?_ ?_
   | refine LeO.bind ?_ (fun _ => ?_)
theorem impl_FitsFormat.mono : ∀ a0 a1 k, LeO (impl_FitsFormat.f k a0 a1) (impl_FitsFormat.f (k + 1) a0 a1) := by
 intro a0 a1 k
 obtain ⟨ih0, ih1⟩ := impl_FitsFormat.mono_l k
 unfold impl_FitsFormat.f
 repeat' first
   | (with_reducible exact ih0 _ _ _)
   | (with_reducible exact ih1 _ _ _ _ _)
   | (with_reducible exact impl_IsFormat.mono _ _)
   | (with_reducible exact LeO.refl _)
   | (with_reducible exact LeO.none _)
   | (with_reducible refine LeO.ite ?_ ?_)
   | (with_reducible refine LeO.bind ?_ (fun _ => ?_))
   | exact ih0 _ _ _
   | exact ih1 _ _ _ _ _
   | exact impl_IsFormat.mono _ _
   | exact LeO.none _
   | refine LeO.ite ?_ ?_
   | refine LeO.bind ?_ (fun _ => ?_)
def impl_FitsFormat.T6 : Bool × List (List Nat × List Nat) := (true, [([], []), ([], []), ([], []), ([0, 1, 2], [0, 1, 2]), ([3, 3], [3]), ([4], [4]), ([4], [4]), ([4], [4]), ([6, 7, 4], [4, 6, 7]), ([8, 4], [4, 8]), ([5, 9, 4, 4], [4, 5, 9]), ([10, 4], [4, 10]), ([4, 11], [4, 11]), ([12, 10], [12]), ([13], [13]), ([13], [13]), ([13], [13]), ([14, 15, 16, 13, 13], [13, 14, 15, 16]), ([17, 13], [13, 17]), ([18, 17, 13], [13, 18]), ([19], [19]), ([19], [19]), ([20, 21, 19], [19, 20, 21]), ([22, 19], [19, 22]), ([23, 19], [19, 23]), ([24, 19], [19, 24]), ([25, 19, 19], [19, 25]), ([26], [26]), ([26], [26]), ([27, 28, 26], [26, 27, 28]), ([29, 26], [26, 29]), ([30, 26], [26, 30]), ([31, 26], [26, 31]), ([32, 26], [26, 32]), ([26, 33, 19], [19, 26, 33]), ([19, 34, 13], [13, 19, 34]), ([13, 35], [13, 35])])
def impl_FitsFormat.B6 : List Nat := [0, 0, 0, 7, 15, 31, 31, 31, 223, 479, 1023, 2047, 4095, 8191, 16383, 16383, 16383, 131071, 262143, 524287, 1048575, 1048575, 4194303, 8388607, 16777215, 33554431, 67108863, 134217727, 134217727, 536870911, 1073741823, 2147483647, 4294967295, 8589934591, 17179869183, 34359738367, 68719476735]
theorem impl_FitsFormat.tab6 : rtab .any (opsOf Try.f55 6) = impl_FitsFormat.T6 := by kernel_rfl
theorem impl_FitsFormat.bits6 : waitsOk impl_FitsFormat.T6.2 impl_FitsFormat.B6 = true := by kernel_rfl
set_option maxHeartbeats 8000000 in
set_option maxRecDepth 100000 in
theorem impl_FitsFormat.calls (k : Nat) (A0 : Option Addr) (c0 : Nat) (l0 : List (S47)) (A1 : Option Addr) (c1 : Nat) (l1 : List (S58)) (r : Bool) (w : World) (hr0 : Kd.C k47 w A0 l0.length l0) (hc0 : l0.length ≤ c0) (hr1 : Kd.C k58 w A1 l1.length l1) (hc1 : l1.length ≤ c1) (h : impl_FitsFormat.f k l0 l1 = some r) :
  Calls Try.prog 55 #[.slice A0 l0.length c0, .slice A1 l1.length c1] w fun e w' => e = .returned (.bool r) ∧ Below w.heap.size w w' := by
 have hu47 := Try.underlying47
 have hu58 := Try.underlying58
 have HR0 := Aside0.mk hr0
 have HC0 := Aside0.mk hc0
 clear hr0 hc0
 have HR1 := Aside0.mk hr1
 have HC1 := Aside0.mk hc1
 clear hr1 hc1
 have HB := Aside0.mk (Below.refl w.heap.size w)
 have H : ((impl_IsFormat.f k l0).bind fun t159 => (if t159 = true then (impl_FitsFormat.j0 k l0 l1 ((l0.length : Int) != (l1.length : Int))) else (impl_FitsFormat.j0 k l0 l1 true))) = some r := h
 clear h
 have HC3 := Aside0.mk H
 clear H
 go_enter Try.func55, Try.ntmps55
 go_upto_region 1 with (fail)
 go_cut [16] (fun v16 wc => ∃ (kq : Nat) (x16_2 : Bool), v16 = .bool x16_2 ∧ Aside0 (impl_FitsFormat.j0 kq l0 l1 x16_2 = some r) ∧ Aside0 (kq ≤ k) ∧ Aside0 (Below w.heap.size w wc))
 case first =>
  have H := HC3.out
  clear HC3
  obtain ⟨t159, A4, H⟩ := bindS H
  by_cases c5 : t159 = true
  ·subst c5
   have H1 : (impl_FitsFormat.j0 k l0 l1 ((l0.length : Int) != (l1.length : Int))) = some r := by rw [if_pos rfl] at H; exact H
   clear H
   have H := H1
   clear H1
   have H' := Aside0.mk H
   clear H
   go_wp2_with (first | ((with_reducible refine gate_callee (f := 17) rfl ?_); refine goesL_ (some 8) rfl rfl Try.func17 (by kernel_rfl) rfl #[.slice A0 l0.length c0] rfl zG ?_; (with_reducible refine (impl_IsFormat.calls k _ _ l0 true _ ?side1 ?side2 A4.out).mono ?_); (case side1 => exact cS HR0 HB); (case side2 => exact HC0.out); rintro e w6 ⟨rfl, hb⟩; refine ⟨_, rfl, ?_⟩; replace HB := bS HB hb; (try clear hb)))
   go_meet
   case rel => exact ⟨_, (((l0.length : Int) != (l1.length : Int))), zF, H', ⟨by first | omega | exact Nat.le_refl _⟩, ⟨zB HB⟩⟩
  ·replace c5 := Bool.eq_false_iff.mpr c5
   subst c5
   have H1 : (impl_FitsFormat.j0 k l0 l1 true) = some r := by rw [if_neg (show ¬ (false = true) by decide)] at H; exact H
   clear H
   have H := H1
   clear H1
   have H' := Aside0.mk H
   clear H
   go_wp2_with (first | ((with_reducible refine gate_callee (f := 17) rfl ?_); refine goesL_ (some 8) rfl rfl Try.func17 (by kernel_rfl) rfl #[.slice A0 l0.length c0] rfl zG ?_; (with_reducible refine (impl_IsFormat.calls k _ _ l0 false _ ?side1 ?side2 A4.out).mono ?_); (case side1 => exact cS HR0 HB); (case side2 => exact HC0.out); rintro e w7 ⟨rfl, hb⟩; refine ⟨_, rfl, ?_⟩; replace HB := bS HB hb; (try clear hb)))
   go_meet
   case rel => exact ⟨_, (true), zF, H', ⟨by first | omega | exact Nat.le_refl _⟩, ⟨zB HB⟩⟩
 case rest =>
  clear HC3
  try clear c1
  try clear p2
  try clear c5
  obtain ⟨kq, x16_2, rfl, HA, HJ2, HB⟩ := hcut
  cases kq with
  | zero => exact absurd HA.out (by simp [impl_FitsFormat.j0])
  | succ kj2 =>
   have H := HA.out
   clear HA
   simp only [impl_FitsFormat.j0] at H
   by_cases c8 : x16_2 = true
   ·subst c8
    have H1 : (some false) = some r := by rw [if_pos rfl] at H; exact H
    clear H
    have H := H1
    clear H1
    obtain rfl := Option.some.inj H
    go_wp2
    go_ret
    exact ⟨zE, zB HB⟩
   ·replace c8 := Bool.eq_false_iff.mpr c8
    subst c8
    have H1 : (impl_FitsFormat.l0 kj2 l0 l1 l0 (l0.length : Int) 0) = some r := by rw [if_neg (show ¬ (false = true) by decide)] at H; exact H
    clear H
    have H := H1
    clear H1
    have H' := Aside0.mk H
    clear H
    go_wp2
    go_loopg [19] kj2 (fun kq v19 w' => ∃ (x19_2 : Int), v19 = .int .i64 x19_2 ∧ Aside0 (impl_FitsFormat.l0 kq l0 l1 l0 (l0.length : Int) x19_2 = some r) ∧ Aside0 (kq ≤ kj2) ∧ Aside0 (Below w.heap.size w w'))
    case atStart => exact ⟨(0), zF, H', ⟨Nat.le_refl _⟩, ⟨zB HB⟩⟩
    case round =>
     clear H'
     try clear c1
     try clear p2
     try clear c5
     try clear c8
     try clear p2
     obtain ⟨x19_2, rfl, HA, HK2, HB⟩ := hrel
     cases gk with
     | zero => exact absurd HA.out (by simp [impl_FitsFormat.l0])
     | succ k2 =>
      have H := HA.out
      clear HA
      simp only [impl_FitsFormat.l0] at H
      by_cases c9 : x19_2 < (l0.length : Int)
      ·rw [if_pos c9] at H
       have c9b0 : decide (x19_2 < (l0.length : Int)) = true := decide_eq_true c9
       clear c9
       obtain ⟨c10, H⟩ := ifS H
       have c10b0 : decide (0 ≤ x19_2) = true := decide_eq_true c10
       clear c10
       obtain ⟨c11, H⟩ := ifS H
       have c11b0 : decide (x19_2 < (l0.length : Int)) = true := decide_eq_true c11
       clear c11
       obtain ⟨t162, A12, H⟩ := bindS H
       by_cases c13 : t162 = true
       ·subst c13
        have H1 : (if x19_2 < (l1.length : Int) then ((impl_FitsField.f ((rd_T47 l0 x19_2).f0) ((rd_T47 l0 x19_2).f1) ((rd_T47 l0 x19_2).f2) ((rd_T47 l0 x19_2).f3) ((rd_T58 l1 x19_2).f0) ((rd_T58 l1 x19_2).f1)).bind fun t164 => (if t164 = true then ((impl_IsThere.f l0 l1 x19_2).bind fun t165 => (if t165 = true then (impl_FitsFormat.l0 k2 l0 l1 l0 (l0.length : Int) (wrap64 (x19_2 + 1))) else (if ((rd_T58 l1 x19_2).f0) = 0 then (if (((rd_T58 l1 x19_2).f1).length : Int) > 0 then (some false) else (impl_FitsFormat.l0 k2 l0 l1 l0 (l0.length : Int) (wrap64 (x19_2 + 1)))) else (some false)))) else (some false))) else (none)) = some r := by rw [if_pos rfl] at H; exact H
        clear H
        have H := H1
        clear H1
        obtain ⟨c14, H⟩ := ifS H
        have c14b0 : decide (x19_2 < (l1.length : Int)) = true := decide_eq_true c14
        clear c14
        obtain ⟨t164, A15, H⟩ := bindS H
        by_cases c16 : t164 = true
        ·subst c16
         have H1 : ((impl_IsThere.f l0 l1 x19_2).bind fun t165 => (if t165 = true then (impl_FitsFormat.l0 k2 l0 l1 l0 (l0.length : Int) (wrap64 (x19_2 + 1))) else (if ((rd_T58 l1 x19_2).f0) = 0 then (if (((rd_T58 l1 x19_2).f1).length : Int) > 0 then (some false) else (impl_FitsFormat.l0 k2 l0 l1 l0 (l0.length : Int) (wrap64 (x19_2 + 1)))) else (some false)))) = some r := by rw [if_pos rfl] at H; exact H
         clear H
         have H := H1
         clear H1
         obtain ⟨t165, A17, H⟩ := bindS H
         by_cases c18 : t165 = true
         ·subst c18
          have H1 : (impl_FitsFormat.l0 k2 l0 l1 l0 (l0.length : Int) (wrap64 (x19_2 + 1))) = some r := by rw [if_pos rfl] at H; exact H
          clear H
          have H := H1
          clear H1
          have H' := Aside0.mk H
          clear H
          have p160 : 0 ≤ (x19_2 : Int) := zD
          have q160 : x19_2 < (l0.length : Int) := zD
          obtain ⟨ad160, e160, hx160_0, hx160_1, hx160_2, hx160_3⟩ := at_T47 HR0.out x19_2 p160 q160
          cases e160
          replace hx160_0 := hL HB hx160_0
          replace hx160_1 := hL HB hx160_1
          replace hx160_2 := hL HB hx160_2
          replace hx160_3 := hL HB hx160_3
          replace p160 := eq_true p160
          replace q160 := eq_true q160
          try go_wp2_with (first | ((with_reducible refine gate_dst (N := 6) rfl ?_); (try (refine gate_guard (by rfl) ?_; dsimp only)); refine box_event ?hg (N := 6) ?hd (cs := #[.int .i64 0, .int .i64 0, .int .i64 0, .int .i64 0]) (t := 47) ?hr ?_; (case hd => rfl); (case hg => rfl); (case hr => first | (go_simp; done) | (go_simp; rfl)); intro gb161 hg w19 hbox hb; have BK161 := Aside0.mk (hbox); have GW161 := gS HB hg; have GE161 := gS HB hg; replace HB := bS HB hb; clear hb hbox hg; have hcz20_0 := bc0 BK161; have hcz20_1 := bc1 BK161; have hcz20_2 := bc2 BK161; have hcz20_3 := bc3 BK161; have hfz20_0 := bf BK161 0; have hfz20_1 := bf BK161 1; have hfz20_2 := bf BK161 2; have hfz20_3 := bf BK161 3))
          have n0_ : Aside0 (((((w19.setCell ⟨gb161, 0, none⟩ (.int .i64 ((rd_T47 l0 x19_2).f0))).setCell ⟨gb161, 1, none⟩ (.int .i64 ((rd_T47 l0 x19_2).f1))).setCell ⟨gb161, 2, none⟩ (.int .i64 ((rd_T47 l0 x19_2).f2))).setCell ⟨gb161, 3, none⟩ (.int .i64 ((rd_T47 l0 x19_2).f3))).heap[gb161]? = some (.cells #[.int .i64 ((rd_T47 l0 x19_2).f0), .int .i64 ((rd_T47 l0 x19_2).f1), .int .i64 ((rd_T47 l0 x19_2).f2), .int .i64 ((rd_T47 l0 x19_2).f3)] 47 (0, 0))) := ⟨by (with_reducible repeat (first | refine blk_drewN ?_ _ | refine blk_drew ?_ | refine blk_alloc ?_ _)); refine blk_put (cs := #[.int .i64 ((rd_T47 l0 x19_2).f0), .int .i64 ((rd_T47 l0 x19_2).f1), .int .i64 ((rd_T47 l0 x19_2).f2), .int .i64 0]) ?_ 3 _ rfl; (with_reducible repeat (first | refine blk_drewN ?_ _ | refine blk_drew ?_ | refine blk_alloc ?_ _)); refine blk_put (cs := #[.int .i64 ((rd_T47 l0 x19_2).f0), .int .i64 ((rd_T47 l0 x19_2).f1), .int .i64 0, .int .i64 0]) ?_ 2 _ rfl; (with_reducible repeat (first | refine blk_drewN ?_ _ | refine blk_drew ?_ | refine blk_alloc ?_ _)); refine blk_put (cs := #[.int .i64 ((rd_T47 l0 x19_2).f0), .int .i64 0, .int .i64 0, .int .i64 0]) ?_ 1 _ rfl; (with_reducible repeat (first | refine blk_drewN ?_ _ | refine blk_drew ?_ | refine blk_alloc ?_ _)); refine blk_put (cs := #[.int .i64 0, .int .i64 0, .int .i64 0, .int .i64 0]) ?_ 0 _ rfl; (with_reducible repeat (first | refine blk_drewN ?_ _ | refine blk_drew ?_ | refine blk_alloc ?_ _)); exact BK161.out⟩
          have n1_ : Aside0 (Below w.heap.size w ((((w19.setCell ⟨gb161, 0, none⟩ (.int .i64 ((rd_T47 l0 x19_2).f0))).setCell ⟨gb161, 1, none⟩ (.int .i64 ((rd_T47 l0 x19_2).f1))).setCell ⟨gb161, 2, none⟩ (.int .i64 ((rd_T47 l0 x19_2).f2))).setCell ⟨gb161, 3, none⟩ (.int .i64 ((rd_T47 l0 x19_2).f3)))) := ⟨zB HB⟩
          (try clear BK161)
          (try clear HB)
          generalize ((((w19.setCell ⟨gb161, 0, none⟩ (.int .i64 ((rd_T47 l0 x19_2).f0))).setCell ⟨gb161, 1, none⟩ (.int .i64 ((rd_T47 l0 x19_2).f1))).setCell ⟨gb161, 2, none⟩ (.int .i64 ((rd_T47 l0 x19_2).f2))).setCell ⟨gb161, 3, none⟩ (.int .i64 ((rd_T47 l0 x19_2).f3))) = w21 at n0_ n1_ ⊢
          have BK161 := n0_
          have HB := n1_
          clear n0_ n1_
          replace BK161 := Aside0.mk (blk_drew BK161.out)
          replace HB := Aside0.mk (below_drew1 HB.out)
          have p163 : 0 ≤ (x19_2 : Int) := zD
          have q163 : x19_2 < (l1.length : Int) := zD
          obtain ⟨ad163, A163_1, c163_1, e163, hx163_0, hx163_1, hl163_1, hi163_1⟩ := at_T58 HR1.out x19_2 p163 q163
          have hw163_1 := hx163_1
          have hw163_0 := hx163_0
          cases e163
          replace hx163_0 := hL HB hx163_0
          replace hx163_1 := hL HB hx163_1
          have HR163_1 := Aside0.mk hi163_1
          have HC163_1 := Aside0.mk hl163_1
          clear hi163_1 hl163_1
          replace p163 := eq_true p163
          replace q163 := eq_true q163
          refine start_ (n := 37) (S := fun w' => w'.cell? ⟨gb161, 0, none⟩ = some (.int .i64 ((rd_T47 l0 x19_2).f0)) ∧ w'.cell? ⟨gb161, 1, none⟩ = some (.int .i64 ((rd_T47 l0 x19_2).f1)) ∧ w'.cell? ⟨gb161, 2, none⟩ = some (.int .i64 ((rd_T47 l0 x19_2).f2)) ∧ w'.cell? ⟨gb161, 3, none⟩ = some (.int .i64 ((rd_T47 l0 x19_2).f3)) ∧ w'.cell? (ad163.add ((x19_2).toNat * 2)) = some (.int .i64 ((rd_T58 l1 x19_2).f0)) ∧ w'.cell? ⟨(ad163.add ((x19_2).toNat * 2)).block, (ad163.add ((x19_2).toNat * 2)).off + 1, none⟩ = some (.slice A163_1 ((rd_T58 l1 x19_2).f1).length c163_1)) (ds := []) (bm 37 0) (by kernel_rfl) rfl (bm0 _) ⟨bc0 BK161, bc1 BK161, bc2 BK161, bc3 BK161, (hL HB hw163_0), (hL HB hw163_1)⟩ (fun hHeld => ?_); refine with_tabW impl_FitsFormat.tab6 impl_FitsFormat.bits6 (fun HT_ HW_ => ?_)
          generalize w21.drew = w22 at BK161 HB HR163_1 hx163_0 hx163_1 hHeld ⊢
          refine pU 0 (some 24) (bm 37 1) HT_ rfl rfl ?_
          refine pU 1 (some 25) (bm 37 3) HT_ rfl rfl ?_
          refine pU 2 (some 26) (bm 37 7) HT_ rfl rfl ?_
          refine one_ (i := 3) (N := some 27) (bm 37 15) rfl rfl (one_of HT_.out (by kernel_rfl)) (by decide) (fun K hK => ?_)
          refine goes_ Try.func42 (by kernel_rfl) rfl #[.slice (some ad160) l0.length c0, .slice (some ad163) l1.length c1, .int .i64 x19_2] (by rfl) rfl rfl zG ?_
          with_reducible refine (impl_IsThere.calls _ _ l0 _ _ l1 x19_2 true _ ?side1 ?side2 ?side3 ?side4 A12.out).mono ?_
          (case side1 => exact cS HR0 HB)
          (case side2 => exact HC0.out)
          (case side3 => exact cS HR1 HB)
          (case side4 => exact HC1.out)
          rintro e w23 ⟨rfl, hb⟩
          refine ⟨_, rfl, ?_⟩
          replace BK161 := kB BK161 hb
          replace HB := bS HB hb
          (try clear hb)
          (try clear hb2)
          (try clear hk)
          (try clear hi)
          refine hK.out _ _ ⟨bc0 BK161, bc1 BK161, bc2 BK161, bc3 BK161, (hL HB hw163_0), (hL HB hw163_1)⟩ (fun hHeld => ?_)
          clear hK K
          refine norm_ (a' := ?_) ?_ ?_
          rotate_left
          ·show Act.put _ (some 27) _ = _
           simp only [Act.put, List.setIfInBounds_toArray, List.set_cons_zero, List.set_cons_succ, i64_w, i32_w]
           rfl
          refine pU 4 (some 28) (bm 37 31) HT_ rfl rfl ?_
          refine pU 6 (some 30) (bm 37 95) HT_ rfl rfl ?_
          refine pU 7 (some 31) (bm 37 223) HT_ rfl rfl ?_
          refine pU 8 (some 32) (bm 37 479) HT_ rfl rfl ?_
          refine tU 5 (some 29) (bm 37 511) HT_ HW_ rfl rfl hHeld ?_
          refine tU 9 (some 33) (bm 37 1023) HT_ HW_ rfl rfl hHeld ?_
          refine one_ (i := 10) (N := some 34) (bm 37 2047) rfl rfl (one_of HT_.out (by kernel_rfl)) (by decide) (fun K hK => ?_)
          refine goes_ Try.func62 (by kernel_rfl) rfl #[.agg #[.int .i64 ((rd_T47 l0 x19_2).f0), .int .i64 ((rd_T47 l0 x19_2).f1), .int .i64 ((rd_T47 l0 x19_2).f2), .int .i64 ((rd_T47 l0 x19_2).f3)], .agg #[.int .i64 ((rd_T58 l1 x19_2).f0), .slice A163_1 ((rd_T58 l1 x19_2).f1).length c163_1]] (by rfl) rfl rfl zG ?_
          with_reducible refine (impl_FitsField.calls ((rd_T47 l0 x19_2).f0) ((rd_T47 l0 x19_2).f1) ((rd_T47 l0 x19_2).f2) ((rd_T47 l0 x19_2).f3) ((rd_T58 l1 x19_2).f0) _ _ ((rd_T58 l1 x19_2).f1) true _ ?side1 ?side2 A15.out).mono ?_
          (case side1 => exact cS HR163_1 HB)
          (case side2 => exact HC163_1.out)
          rintro e w24 ⟨rfl, hb⟩
          refine ⟨_, rfl, ?_⟩
          replace BK161 := kB BK161 hb
          replace HB := bS HB hb
          (try clear hb)
          (try clear hb2)
          (try clear hk)
          (try clear hi)
          refine hK.out _ _ ⟨bc0 BK161, bc1 BK161, bc2 BK161, bc3 BK161, (hL HB hw163_0), (hL HB hw163_1)⟩ (fun hHeld => ?_)
          clear hK K
          refine norm_ (a' := ?_) ?_ ?_
          rotate_left
          ·show Act.put _ (some 34) _ = _
           simp only [Act.put, List.setIfInBounds_toArray, List.set_cons_zero, List.set_cons_succ, i64_w, i32_w]
           rfl
          refine pU 11 (some 35) (bm 37 4095) HT_ rfl rfl ?_
          refine pU 12 (some 36) (bm 37 8191) HT_ rfl rfl ?_
          refine pU 13 (some 37) (bm 37 16383) HT_ rfl rfl ?_
          refine pU 14 (some 38) (bm 37 32767) HT_ rfl rfl ?_
          refine pU 15 (some 39) (bm 37 65535) HT_ rfl rfl ?_
          refine pU 16 (some 40) (bm 37 131071) HT_ rfl rfl ?_
          refine one_ (i := 17) (N := some 41) (bm 37 262143) rfl rfl (one_of HT_.out (by kernel_rfl)) (by decide) (fun K hK => ?_)
          refine goes_ Try.func42 (by kernel_rfl) rfl #[.slice (some ad160) l0.length c0, .slice (some ad163) l1.length c1, .int .i64 x19_2] (by rfl) rfl rfl zG ?_
          with_reducible refine (impl_IsThere.calls _ _ l0 _ _ l1 x19_2 true _ ?side1 ?side2 ?side3 ?side4 A17.out).mono ?_
          (case side1 => exact cS HR0 HB)
          (case side2 => exact HC0.out)
          (case side3 => exact cS HR1 HB)
          (case side4 => exact HC1.out)
          rintro e w25 ⟨rfl, hb⟩
          refine ⟨_, rfl, ?_⟩
          replace BK161 := kB BK161 hb
          replace HB := bS HB hb
          (try clear hb)
          (try clear hb2)
          (try clear hk)
          (try clear hi)
          refine hK.out _ _ ⟨bc0 BK161, bc1 BK161, bc2 BK161, bc3 BK161, (hL HB hw163_0), (hL HB hw163_1)⟩ (fun hHeld => ?_)
          clear hK K
          refine norm_ (a' := ?_) ?_ ?_
          rotate_left
          ·show Act.put _ (some 41) _ = _
           simp only [Act.put, List.setIfInBounds_toArray, List.set_cons_zero, List.set_cons_succ, i64_w, i32_w]
           rfl
          refine pU 18 (some 42) (bm 37 524287) HT_ rfl rfl ?_
          refine pU 19 (some 43) (bm 37 1048575) HT_ rfl rfl ?_
          refine pV 20 (some 44) (bm 37 2097151) HT_ rfl rfl ?_
          refine pV 21 (some 45) (bm 37 4194303) HT_ rfl rfl ?_
          refine pV 22 (some 46) (bm 37 8388607) HT_ rfl rfl ?_
          refine pV 23 (some 47) (bm 37 16777215) HT_ rfl rfl ?_
          refine pV 24 (some 48) (bm 37 33554431) HT_ rfl rfl ?_
          refine pV 25 (some 49) (bm 37 67108863) HT_ rfl rfl ?_
          refine pV 26 (some 50) (bm 37 134217727) HT_ rfl rfl ?_
          refine pV 27 (some 51) (bm 37 268435455) HT_ rfl rfl ?_
          refine pV 28 (some 52) (bm 37 536870911) HT_ rfl rfl ?_
          refine pV 29 (some 53) (bm 37 1073741823) HT_ rfl rfl ?_
          refine pV 30 (some 54) (bm 37 2147483647) HT_ rfl rfl ?_
          refine pV 31 (some 55) (bm 37 4294967295) HT_ rfl rfl ?_
          refine pV 32 (some 56) (bm 37 8589934591) HT_ rfl rfl ?_
          refine pV 33 (some 57) (bm 37 17179869183) HT_ rfl rfl ?_
          refine pV 34 (some 58) (bm 37 34359738367) HT_ rfl rfl ?_
          refine pU 35 (some 59) (bm 37 68719476735) HT_ rfl rfl ?_
          refine pU 36 (some 60) (bm 37 137438953471) HT_ rfl rfl ?_
          refine done_ (done_of HT_.out (by kernel_rfl)) ?_
          try clear hHeld
          try go_wp2
          go_roundg k2
          case measure => have := HJ2.out; have := HK2.out; omega
          case rel => exact ⟨(wrap64 (x19_2 + 1)), zF, H', ⟨by have := HJ2.out; have := HK2.out; omega⟩, ⟨zB HB⟩⟩
         ·replace c18 := Bool.eq_false_iff.mpr c18
          subst c18
          have H1 : (if ((rd_T58 l1 x19_2).f0) = 0 then (if (((rd_T58 l1 x19_2).f1).length : Int) > 0 then (some false) else (impl_FitsFormat.l0 k2 l0 l1 l0 (l0.length : Int) (wrap64 (x19_2 + 1)))) else (some false)) = some r := by rw [if_neg (show ¬ (false = true) by decide)] at H; exact H
          clear H
          have H := H1
          clear H1
          by_cases c26 : ((rd_T58 l1 x19_2).f0) = 0
          ·rw [if_pos c26] at H
           have c26b0 : (((rd_T58 l1 x19_2).f0) == 0) = true := beq_iff_eq.mpr c26
           have c26b1 : (((rd_T58 l1 x19_2).f0) != 0) = false := bne_eq_false_iff_eq.mpr c26
           clear c26
           by_cases c27 : (((rd_T58 l1 x19_2).f1).length : Int) > 0
           ·rw [if_pos c27] at H
            have c27b0 : decide (0 < (((rd_T58 l1 x19_2).f1).length : Int)) = true := decide_eq_true c27
            have c27b1 : decide (0 < ((rd_T58 l1 x19_2).f1).length) = true := decide_eq_true (by omega)
            clear c27
            obtain rfl := Option.some.inj H
            have p160 : 0 ≤ (x19_2 : Int) := zD
            have q160 : x19_2 < (l0.length : Int) := zD
            obtain ⟨ad160, e160, hx160_0, hx160_1, hx160_2, hx160_3⟩ := at_T47 HR0.out x19_2 p160 q160
            cases e160
            replace hx160_0 := hL HB hx160_0
            replace hx160_1 := hL HB hx160_1
            replace hx160_2 := hL HB hx160_2
            replace hx160_3 := hL HB hx160_3
            replace p160 := eq_true p160
            replace q160 := eq_true q160
            try go_wp2_with (first | ((with_reducible refine gate_dst (N := 6) rfl ?_); (try (refine gate_guard (by rfl) ?_; dsimp only)); refine box_event ?hg (N := 6) ?hd (cs := #[.int .i64 0, .int .i64 0, .int .i64 0, .int .i64 0]) (t := 47) ?hr ?_; (case hd => rfl); (case hg => rfl); (case hr => first | (go_simp; done) | (go_simp; rfl)); intro gb161 hg w28 hbox hb; have BK161 := Aside0.mk (hbox); have GW161 := gS HB hg; have GE161 := gS HB hg; replace HB := bS HB hb; clear hb hbox hg; have hcz29_0 := bc0 BK161; have hcz29_1 := bc1 BK161; have hcz29_2 := bc2 BK161; have hcz29_3 := bc3 BK161; have hfz29_0 := bf BK161 0; have hfz29_1 := bf BK161 1; have hfz29_2 := bf BK161 2; have hfz29_3 := bf BK161 3))
            have n0_ : Aside0 (((((w28.setCell ⟨gb161, 0, none⟩ (.int .i64 ((rd_T47 l0 x19_2).f0))).setCell ⟨gb161, 1, none⟩ (.int .i64 ((rd_T47 l0 x19_2).f1))).setCell ⟨gb161, 2, none⟩ (.int .i64 ((rd_T47 l0 x19_2).f2))).setCell ⟨gb161, 3, none⟩ (.int .i64 ((rd_T47 l0 x19_2).f3))).heap[gb161]? = some (.cells #[.int .i64 ((rd_T47 l0 x19_2).f0), .int .i64 ((rd_T47 l0 x19_2).f1), .int .i64 ((rd_T47 l0 x19_2).f2), .int .i64 ((rd_T47 l0 x19_2).f3)] 47 (0, 0))) := ⟨by (with_reducible repeat (first | refine blk_drewN ?_ _ | refine blk_drew ?_ | refine blk_alloc ?_ _)); refine blk_put (cs := #[.int .i64 ((rd_T47 l0 x19_2).f0), .int .i64 ((rd_T47 l0 x19_2).f1), .int .i64 ((rd_T47 l0 x19_2).f2), .int .i64 0]) ?_ 3 _ rfl; (with_reducible repeat (first | refine blk_drewN ?_ _ | refine blk_drew ?_ | refine blk_alloc ?_ _)); refine blk_put (cs := #[.int .i64 ((rd_T47 l0 x19_2).f0), .int .i64 ((rd_T47 l0 x19_2).f1), .int .i64 0, .int .i64 0]) ?_ 2 _ rfl; (with_reducible repeat (first | refine blk_drewN ?_ _ | refine blk_drew ?_ | refine blk_alloc ?_ _)); refine blk_put (cs := #[.int .i64 ((rd_T47 l0 x19_2).f0), .int .i64 0, .int .i64 0, .int .i64 0]) ?_ 1 _ rfl; (with_reducible repeat (first | refine blk_drewN ?_ _ | refine blk_drew ?_ | refine blk_alloc ?_ _)); refine blk_put (cs := #[.int .i64 0, .int .i64 0, .int .i64 0, .int .i64 0]) ?_ 0 _ rfl; (with_reducible repeat (first | refine blk_drewN ?_ _ | refine blk_drew ?_ | refine blk_alloc ?_ _)); exact BK161.out⟩
            have n1_ : Aside0 (Below w.heap.size w ((((w28.setCell ⟨gb161, 0, none⟩ (.int .i64 ((rd_T47 l0 x19_2).f0))).setCell ⟨gb161, 1, none⟩ (.int .i64 ((rd_T47 l0 x19_2).f1))).setCell ⟨gb161, 2, none⟩ (.int .i64 ((rd_T47 l0 x19_2).f2))).setCell ⟨gb161, 3, none⟩ (.int .i64 ((rd_T47 l0 x19_2).f3)))) := ⟨zB HB⟩
            (try clear BK161)
            (try clear HB)
            generalize ((((w28.setCell ⟨gb161, 0, none⟩ (.int .i64 ((rd_T47 l0 x19_2).f0))).setCell ⟨gb161, 1, none⟩ (.int .i64 ((rd_T47 l0 x19_2).f1))).setCell ⟨gb161, 2, none⟩ (.int .i64 ((rd_T47 l0 x19_2).f2))).setCell ⟨gb161, 3, none⟩ (.int .i64 ((rd_T47 l0 x19_2).f3))) = w30 at n0_ n1_ ⊢
            have BK161 := n0_
            have HB := n1_
            clear n0_ n1_
            replace BK161 := Aside0.mk (blk_drew BK161.out)
            replace HB := Aside0.mk (below_drew1 HB.out)
            have p163 : 0 ≤ (x19_2 : Int) := zD
            have q163 : x19_2 < (l1.length : Int) := zD
            obtain ⟨ad163, A163_1, c163_1, e163, hx163_0, hx163_1, hl163_1, hi163_1⟩ := at_T58 HR1.out x19_2 p163 q163
            have hw163_1 := hx163_1
            have hw163_0 := hx163_0
            cases e163
            replace hx163_0 := hL HB hx163_0
            replace hx163_1 := hL HB hx163_1
            have HR163_1 := Aside0.mk hi163_1
            have HC163_1 := Aside0.mk hl163_1
            clear hi163_1 hl163_1
            replace p163 := eq_true p163
            replace q163 := eq_true q163
            have p166 : 0 ≤ (x19_2 : Int) := zD
            have q166 : x19_2 < (l1.length : Int) := zD
            obtain ⟨ad166, A166_1, c166_1, e166, hx166_0, hx166_1, hl166_1, hi166_1⟩ := at_T58 HR1.out x19_2 p166 q166
            have hw166_1 := hx166_1
            have hw166_0 := hx166_0
            obtain rfl : ad163 = ad166 := (by injection e166)
            replace hx166_0 := hL HB hx166_0
            replace hx166_1 := hL HB hx166_1
            have HR166_1 := Aside0.mk hi166_1
            have HC166_1 := Aside0.mk hl166_1
            clear hi166_1 hl166_1
            replace p166 := eq_true p166
            replace q166 := eq_true q166
            have p167 : 0 ≤ (x19_2 : Int) := zD
            have q167 : x19_2 < (l1.length : Int) := zD
            obtain ⟨ad167, A167_1, c167_1, e167, hx167_0, hx167_1, hl167_1, hi167_1⟩ := at_T58 HR1.out x19_2 p167 q167
            have hw167_1 := hx167_1
            have hw167_0 := hx167_0
            obtain rfl : ad163 = ad167 := (by injection e167)
            replace hx167_0 := hL HB hx167_0
            replace hx167_1 := hL HB hx167_1
            have HR167_1 := Aside0.mk hi167_1
            have HC167_1 := Aside0.mk hl167_1
            clear hi167_1 hl167_1
            replace p167 := eq_true p167
            replace q167 := eq_true q167
            have ea_ := Option.some.inj (hx166_1.symm.trans hx167_1)
            injection ea_ with ea_ en_ ec_
            subst ea_
            subst ec_
            clear en_
            refine start_ (n := 37) (S := fun w' => w'.cell? ⟨gb161, 0, none⟩ = some (.int .i64 ((rd_T47 l0 x19_2).f0)) ∧ w'.cell? ⟨gb161, 1, none⟩ = some (.int .i64 ((rd_T47 l0 x19_2).f1)) ∧ w'.cell? ⟨gb161, 2, none⟩ = some (.int .i64 ((rd_T47 l0 x19_2).f2)) ∧ w'.cell? ⟨gb161, 3, none⟩ = some (.int .i64 ((rd_T47 l0 x19_2).f3)) ∧ w'.cell? (ad163.add ((x19_2).toNat * 2)) = some (.int .i64 ((rd_T58 l1 x19_2).f0)) ∧ w'.cell? ⟨(ad163.add ((x19_2).toNat * 2)).block, (ad163.add ((x19_2).toNat * 2)).off + 1, none⟩ = some (.slice A163_1 ((rd_T58 l1 x19_2).f1).length c163_1) ∧ w'.cell? (ad163.add ((x19_2).toNat * 2)) = some (.int .i64 ((rd_T58 l1 x19_2).f0)) ∧ w'.cell? ⟨(ad163.add ((x19_2).toNat * 2)).block, (ad163.add ((x19_2).toNat * 2)).off + 1, none⟩ = some (.slice A166_1 ((rd_T58 l1 x19_2).f1).length c166_1) ∧ w'.cell? (ad163.add ((x19_2).toNat * 2)) = some (.int .i64 ((rd_T58 l1 x19_2).f0)) ∧ w'.cell? ⟨(ad163.add ((x19_2).toNat * 2)).block, (ad163.add ((x19_2).toNat * 2)).off + 1, none⟩ = some (.slice A166_1 ((rd_T58 l1 x19_2).f1).length c166_1)) (ds := []) (bm 37 0) (by kernel_rfl) rfl (bm0 _) ⟨bc0 BK161, bc1 BK161, bc2 BK161, bc3 BK161, (hL HB hw163_0), (hL HB hw163_1), (hL HB hw166_0), (hL HB hw166_1), (hL HB hw167_0), (hL HB hw167_1)⟩ (fun hHeld => ?_); refine with_tabW impl_FitsFormat.tab6 impl_FitsFormat.bits6 (fun HT_ HW_ => ?_)
            generalize w30.drew = w31 at BK161 HB HR163_1 HR166_1 HR167_1 hx163_0 hx163_1 hx166_0 hx166_1 hx167_0 hx167_1 hHeld ⊢
            refine pU 0 (some 24) (bm 37 1) HT_ rfl rfl ?_
            refine pU 1 (some 25) (bm 37 3) HT_ rfl rfl ?_
            refine pU 2 (some 26) (bm 37 7) HT_ rfl rfl ?_
            refine one_ (i := 3) (N := some 27) (bm 37 15) rfl rfl (one_of HT_.out (by kernel_rfl)) (by decide) (fun K hK => ?_)
            refine goes_ Try.func42 (by kernel_rfl) rfl #[.slice (some ad160) l0.length c0, .slice (some ad163) l1.length c1, .int .i64 x19_2] (by rfl) rfl rfl zG ?_
            with_reducible refine (impl_IsThere.calls _ _ l0 _ _ l1 x19_2 true _ ?side1 ?side2 ?side3 ?side4 A12.out).mono ?_
            (case side1 => exact cS HR0 HB)
            (case side2 => exact HC0.out)
            (case side3 => exact cS HR1 HB)
            (case side4 => exact HC1.out)
            rintro e w32 ⟨rfl, hb⟩
            refine ⟨_, rfl, ?_⟩
            replace BK161 := kB BK161 hb
            replace HB := bS HB hb
            (try clear hb)
            (try clear hb2)
            (try clear hk)
            (try clear hi)
            refine hK.out _ _ ⟨bc0 BK161, bc1 BK161, bc2 BK161, bc3 BK161, (hL HB hw163_0), (hL HB hw163_1), (hL HB hw166_0), (hL HB hw166_1), (hL HB hw167_0), (hL HB hw167_1)⟩ (fun hHeld => ?_)
            clear hK K
            refine norm_ (a' := ?_) ?_ ?_
            rotate_left
            ·show Act.put _ (some 27) _ = _
             simp only [Act.put, List.setIfInBounds_toArray, List.set_cons_zero, List.set_cons_succ, i64_w, i32_w]
             rfl
            refine pU 4 (some 28) (bm 37 31) HT_ rfl rfl ?_
            refine pU 6 (some 30) (bm 37 95) HT_ rfl rfl ?_
            refine pU 7 (some 31) (bm 37 223) HT_ rfl rfl ?_
            refine pU 8 (some 32) (bm 37 479) HT_ rfl rfl ?_
            refine tU 5 (some 29) (bm 37 511) HT_ HW_ rfl rfl hHeld ?_
            refine tU 9 (some 33) (bm 37 1023) HT_ HW_ rfl rfl hHeld ?_
            refine one_ (i := 10) (N := some 34) (bm 37 2047) rfl rfl (one_of HT_.out (by kernel_rfl)) (by decide) (fun K hK => ?_)
            refine goes_ Try.func62 (by kernel_rfl) rfl #[.agg #[.int .i64 ((rd_T47 l0 x19_2).f0), .int .i64 ((rd_T47 l0 x19_2).f1), .int .i64 ((rd_T47 l0 x19_2).f2), .int .i64 ((rd_T47 l0 x19_2).f3)], .agg #[.int .i64 ((rd_T58 l1 x19_2).f0), .slice A163_1 ((rd_T58 l1 x19_2).f1).length c163_1]] (by rfl) rfl rfl zG ?_
            with_reducible refine (impl_FitsField.calls ((rd_T47 l0 x19_2).f0) ((rd_T47 l0 x19_2).f1) ((rd_T47 l0 x19_2).f2) ((rd_T47 l0 x19_2).f3) ((rd_T58 l1 x19_2).f0) _ _ ((rd_T58 l1 x19_2).f1) true _ ?side1 ?side2 A15.out).mono ?_
            (case side1 => exact cS HR163_1 HB)
            (case side2 => exact HC163_1.out)
            rintro e w33 ⟨rfl, hb⟩
            refine ⟨_, rfl, ?_⟩
            replace BK161 := kB BK161 hb
            replace HB := bS HB hb
            (try clear hb)
            (try clear hb2)
            (try clear hk)
            (try clear hi)
            refine hK.out _ _ ⟨bc0 BK161, bc1 BK161, bc2 BK161, bc3 BK161, (hL HB hw163_0), (hL HB hw163_1), (hL HB hw166_0), (hL HB hw166_1), (hL HB hw167_0), (hL HB hw167_1)⟩ (fun hHeld => ?_)
            clear hK K
            refine norm_ (a' := ?_) ?_ ?_
            rotate_left
            ·show Act.put _ (some 34) _ = _
             simp only [Act.put, List.setIfInBounds_toArray, List.set_cons_zero, List.set_cons_succ, i64_w, i32_w]
             rfl
            refine pU 11 (some 35) (bm 37 4095) HT_ rfl rfl ?_
            refine pU 12 (some 36) (bm 37 8191) HT_ rfl rfl ?_
            refine pU 13 (some 37) (bm 37 16383) HT_ rfl rfl ?_
            refine pU 14 (some 38) (bm 37 32767) HT_ rfl rfl ?_
            refine pU 15 (some 39) (bm 37 65535) HT_ rfl rfl ?_
            refine pU 16 (some 40) (bm 37 131071) HT_ rfl rfl ?_
            refine one_ (i := 17) (N := some 41) (bm 37 262143) rfl rfl (one_of HT_.out (by kernel_rfl)) (by decide) (fun K hK => ?_)
            refine goes_ Try.func42 (by kernel_rfl) rfl #[.slice (some ad160) l0.length c0, .slice (some ad163) l1.length c1, .int .i64 x19_2] (by rfl) rfl rfl zG ?_
            with_reducible refine (impl_IsThere.calls _ _ l0 _ _ l1 x19_2 false _ ?side1 ?side2 ?side3 ?side4 A17.out).mono ?_
            (case side1 => exact cS HR0 HB)
            (case side2 => exact HC0.out)
            (case side3 => exact cS HR1 HB)
            (case side4 => exact HC1.out)
            rintro e w34 ⟨rfl, hb⟩
            refine ⟨_, rfl, ?_⟩
            replace BK161 := kB BK161 hb
            replace HB := bS HB hb
            (try clear hb)
            (try clear hb2)
            (try clear hk)
            (try clear hi)
            refine hK.out _ _ ⟨bc0 BK161, bc1 BK161, bc2 BK161, bc3 BK161, (hL HB hw163_0), (hL HB hw163_1), (hL HB hw166_0), (hL HB hw166_1), (hL HB hw167_0), (hL HB hw167_1)⟩ (fun hHeld => ?_)
            clear hK K
            refine norm_ (a' := ?_) ?_ ?_
            rotate_left
            ·show Act.put _ (some 41) _ = _
             simp only [Act.put, List.setIfInBounds_toArray, List.set_cons_zero, List.set_cons_succ, i64_w, i32_w]
             rfl
            refine pU 18 (some 42) (bm 37 524287) HT_ rfl rfl ?_
            refine pU 19 (some 43) (bm 37 1048575) HT_ rfl rfl ?_
            refine pU 20 (some 44) (bm 37 2097151) HT_ rfl rfl ?_
            refine pU 21 (some 45) (bm 37 4194303) HT_ rfl rfl ?_
            refine pU 22 (some 46) (bm 37 8388607) HT_ rfl rfl ?_
            refine pU 23 (some 47) (bm 37 16777215) HT_ rfl rfl ?_
            refine tU 24 (some 48) (bm 37 33554431) HT_ HW_ rfl rfl hHeld ?_
            refine pU 25 (some 49) (bm 37 67108863) HT_ rfl rfl ?_
            refine pU 26 (some 50) (bm 37 134217727) HT_ rfl rfl ?_
            refine pU 27 (some 51) (bm 37 268435455) HT_ rfl rfl ?_
            refine pU 28 (some 52) (bm 37 536870911) HT_ rfl rfl ?_
            refine pU 29 (some 53) (bm 37 1073741823) HT_ rfl rfl ?_
            refine pU 30 (some 54) (bm 37 2147483647) HT_ rfl rfl ?_
            refine tU 31 (some 55) (bm 37 4294967295) HT_ HW_ rfl rfl hHeld ?_
            refine pU 32 (some 56) (bm 37 8589934591) HT_ rfl rfl ?_
            refine pU 33 (some 57) (bm 37 17179869183) HT_ rfl rfl ?_
            refine pU 34 (some 58) (bm 37 34359738367) HT_ rfl rfl ?_
            refine pU 35 (some 59) (bm 37 68719476735) HT_ rfl rfl ?_
            refine pU 36 (some 60) (bm 37 137438953471) HT_ rfl rfl ?_
            refine done_ (done_of HT_.out (by kernel_rfl)) ?_
            try clear hHeld
            try go_wp2
            go_ret
            exact ⟨zE, zB HB⟩
           ·rw [if_neg c27] at H
            have c27b0 : decide (0 < (((rd_T58 l1 x19_2).f1).length : Int)) = false := decide_eq_false c27
            have c27b1 : decide (0 < ((rd_T58 l1 x19_2).f1).length) = false := decide_eq_false (by omega)
            clear c27
            have H' := Aside0.mk H
            clear H
            have p160 : 0 ≤ (x19_2 : Int) := zD
            have q160 : x19_2 < (l0.length : Int) := zD
            obtain ⟨ad160, e160, hx160_0, hx160_1, hx160_2, hx160_3⟩ := at_T47 HR0.out x19_2 p160 q160
            cases e160
            replace hx160_0 := hL HB hx160_0
            replace hx160_1 := hL HB hx160_1
            replace hx160_2 := hL HB hx160_2
            replace hx160_3 := hL HB hx160_3
            replace p160 := eq_true p160
            replace q160 := eq_true q160
            try go_wp2_with (first | ((with_reducible refine gate_dst (N := 6) rfl ?_); (try (refine gate_guard (by rfl) ?_; dsimp only)); refine box_event ?hg (N := 6) ?hd (cs := #[.int .i64 0, .int .i64 0, .int .i64 0, .int .i64 0]) (t := 47) ?hr ?_; (case hd => rfl); (case hg => rfl); (case hr => first | (go_simp; done) | (go_simp; rfl)); intro gb161 hg w35 hbox hb; have BK161 := Aside0.mk (hbox); have GW161 := gS HB hg; have GE161 := gS HB hg; replace HB := bS HB hb; clear hb hbox hg; have hcz36_0 := bc0 BK161; have hcz36_1 := bc1 BK161; have hcz36_2 := bc2 BK161; have hcz36_3 := bc3 BK161; have hfz36_0 := bf BK161 0; have hfz36_1 := bf BK161 1; have hfz36_2 := bf BK161 2; have hfz36_3 := bf BK161 3))
            have n0_ : Aside0 (((((w35.setCell ⟨gb161, 0, none⟩ (.int .i64 ((rd_T47 l0 x19_2).f0))).setCell ⟨gb161, 1, none⟩ (.int .i64 ((rd_T47 l0 x19_2).f1))).setCell ⟨gb161, 2, none⟩ (.int .i64 ((rd_T47 l0 x19_2).f2))).setCell ⟨gb161, 3, none⟩ (.int .i64 ((rd_T47 l0 x19_2).f3))).heap[gb161]? = some (.cells #[.int .i64 ((rd_T47 l0 x19_2).f0), .int .i64 ((rd_T47 l0 x19_2).f1), .int .i64 ((rd_T47 l0 x19_2).f2), .int .i64 ((rd_T47 l0 x19_2).f3)] 47 (0, 0))) := ⟨by (with_reducible repeat (first | refine blk_drewN ?_ _ | refine blk_drew ?_ | refine blk_alloc ?_ _)); refine blk_put (cs := #[.int .i64 ((rd_T47 l0 x19_2).f0), .int .i64 ((rd_T47 l0 x19_2).f1), .int .i64 ((rd_T47 l0 x19_2).f2), .int .i64 0]) ?_ 3 _ rfl; (with_reducible repeat (first | refine blk_drewN ?_ _ | refine blk_drew ?_ | refine blk_alloc ?_ _)); refine blk_put (cs := #[.int .i64 ((rd_T47 l0 x19_2).f0), .int .i64 ((rd_T47 l0 x19_2).f1), .int .i64 0, .int .i64 0]) ?_ 2 _ rfl; (with_reducible repeat (first | refine blk_drewN ?_ _ | refine blk_drew ?_ | refine blk_alloc ?_ _)); refine blk_put (cs := #[.int .i64 ((rd_T47 l0 x19_2).f0), .int .i64 0, .int .i64 0, .int .i64 0]) ?_ 1 _ rfl; (with_reducible repeat (first | refine blk_drewN ?_ _ | refine blk_drew ?_ | refine blk_alloc ?_ _)); refine blk_put (cs := #[.int .i64 0, .int .i64 0, .int .i64 0, .int .i64 0]) ?_ 0 _ rfl; (with_reducible repeat (first | refine blk_drewN ?_ _ | refine blk_drew ?_ | refine blk_alloc ?_ _)); exact BK161.out⟩
            have n1_ : Aside0 (Below w.heap.size w ((((w35.setCell ⟨gb161, 0, none⟩ (.int .i64 ((rd_T47 l0 x19_2).f0))).setCell ⟨gb161, 1, none⟩ (.int .i64 ((rd_T47 l0 x19_2).f1))).setCell ⟨gb161, 2, none⟩ (.int .i64 ((rd_T47 l0 x19_2).f2))).setCell ⟨gb161, 3, none⟩ (.int .i64 ((rd_T47 l0 x19_2).f3)))) := ⟨zB HB⟩
            (try clear BK161)
            (try clear HB)
            generalize ((((w35.setCell ⟨gb161, 0, none⟩ (.int .i64 ((rd_T47 l0 x19_2).f0))).setCell ⟨gb161, 1, none⟩ (.int .i64 ((rd_T47 l0 x19_2).f1))).setCell ⟨gb161, 2, none⟩ (.int .i64 ((rd_T47 l0 x19_2).f2))).setCell ⟨gb161, 3, none⟩ (.int .i64 ((rd_T47 l0 x19_2).f3))) = w37 at n0_ n1_ ⊢
            have BK161 := n0_
            have HB := n1_
            clear n0_ n1_
            replace BK161 := Aside0.mk (blk_drew BK161.out)
            replace HB := Aside0.mk (below_drew1 HB.out)
            have p163 : 0 ≤ (x19_2 : Int) := zD
            have q163 : x19_2 < (l1.length : Int) := zD
            obtain ⟨ad163, A163_1, c163_1, e163, hx163_0, hx163_1, hl163_1, hi163_1⟩ := at_T58 HR1.out x19_2 p163 q163
            have hw163_1 := hx163_1
            have hw163_0 := hx163_0
            cases e163
            replace hx163_0 := hL HB hx163_0
            replace hx163_1 := hL HB hx163_1
            have HR163_1 := Aside0.mk hi163_1
            have HC163_1 := Aside0.mk hl163_1
            clear hi163_1 hl163_1
            replace p163 := eq_true p163
            replace q163 := eq_true q163
            have p166 : 0 ≤ (x19_2 : Int) := zD
            have q166 : x19_2 < (l1.length : Int) := zD
            obtain ⟨ad166, A166_1, c166_1, e166, hx166_0, hx166_1, hl166_1, hi166_1⟩ := at_T58 HR1.out x19_2 p166 q166
            have hw166_1 := hx166_1
            have hw166_0 := hx166_0
            obtain rfl : ad163 = ad166 := (by injection e166)
            replace hx166_0 := hL HB hx166_0
            replace hx166_1 := hL HB hx166_1
            have HR166_1 := Aside0.mk hi166_1
            have HC166_1 := Aside0.mk hl166_1
            clear hi166_1 hl166_1
            replace p166 := eq_true p166
            replace q166 := eq_true q166
            have p167 : 0 ≤ (x19_2 : Int) := zD
            have q167 : x19_2 < (l1.length : Int) := zD
            obtain ⟨ad167, A167_1, c167_1, e167, hx167_0, hx167_1, hl167_1, hi167_1⟩ := at_T58 HR1.out x19_2 p167 q167
            have hw167_1 := hx167_1
            have hw167_0 := hx167_0
            obtain rfl : ad163 = ad167 := (by injection e167)
            replace hx167_0 := hL HB hx167_0
            replace hx167_1 := hL HB hx167_1
            have HR167_1 := Aside0.mk hi167_1
            have HC167_1 := Aside0.mk hl167_1
            clear hi167_1 hl167_1
            replace p167 := eq_true p167
            replace q167 := eq_true q167
            have ea_ := Option.some.inj (hx166_1.symm.trans hx167_1)
            injection ea_ with ea_ en_ ec_
            subst ea_
            subst ec_
            clear en_
            refine start_ (n := 37) (S := fun w' => w'.cell? ⟨gb161, 0, none⟩ = some (.int .i64 ((rd_T47 l0 x19_2).f0)) ∧ w'.cell? ⟨gb161, 1, none⟩ = some (.int .i64 ((rd_T47 l0 x19_2).f1)) ∧ w'.cell? ⟨gb161, 2, none⟩ = some (.int .i64 ((rd_T47 l0 x19_2).f2)) ∧ w'.cell? ⟨gb161, 3, none⟩ = some (.int .i64 ((rd_T47 l0 x19_2).f3)) ∧ w'.cell? (ad163.add ((x19_2).toNat * 2)) = some (.int .i64 ((rd_T58 l1 x19_2).f0)) ∧ w'.cell? ⟨(ad163.add ((x19_2).toNat * 2)).block, (ad163.add ((x19_2).toNat * 2)).off + 1, none⟩ = some (.slice A163_1 ((rd_T58 l1 x19_2).f1).length c163_1) ∧ w'.cell? (ad163.add ((x19_2).toNat * 2)) = some (.int .i64 ((rd_T58 l1 x19_2).f0)) ∧ w'.cell? ⟨(ad163.add ((x19_2).toNat * 2)).block, (ad163.add ((x19_2).toNat * 2)).off + 1, none⟩ = some (.slice A166_1 ((rd_T58 l1 x19_2).f1).length c166_1) ∧ w'.cell? (ad163.add ((x19_2).toNat * 2)) = some (.int .i64 ((rd_T58 l1 x19_2).f0)) ∧ w'.cell? ⟨(ad163.add ((x19_2).toNat * 2)).block, (ad163.add ((x19_2).toNat * 2)).off + 1, none⟩ = some (.slice A166_1 ((rd_T58 l1 x19_2).f1).length c166_1)) (ds := []) (bm 37 0) (by kernel_rfl) rfl (bm0 _) ⟨bc0 BK161, bc1 BK161, bc2 BK161, bc3 BK161, (hL HB hw163_0), (hL HB hw163_1), (hL HB hw166_0), (hL HB hw166_1), (hL HB hw167_0), (hL HB hw167_1)⟩ (fun hHeld => ?_); refine with_tabW impl_FitsFormat.tab6 impl_FitsFormat.bits6 (fun HT_ HW_ => ?_)
            generalize w37.drew = w38 at BK161 HB HR163_1 HR166_1 HR167_1 hx163_0 hx163_1 hx166_0 hx166_1 hx167_0 hx167_1 hHeld ⊢
            refine pU 0 (some 24) (bm 37 1) HT_ rfl rfl ?_
            refine pU 1 (some 25) (bm 37 3) HT_ rfl rfl ?_
            refine pU 2 (some 26) (bm 37 7) HT_ rfl rfl ?_
            refine one_ (i := 3) (N := some 27) (bm 37 15) rfl rfl (one_of HT_.out (by kernel_rfl)) (by decide) (fun K hK => ?_)
            refine goes_ Try.func42 (by kernel_rfl) rfl #[.slice (some ad160) l0.length c0, .slice (some ad163) l1.length c1, .int .i64 x19_2] (by rfl) rfl rfl zG ?_
            with_reducible refine (impl_IsThere.calls _ _ l0 _ _ l1 x19_2 true _ ?side1 ?side2 ?side3 ?side4 A12.out).mono ?_
            (case side1 => exact cS HR0 HB)
            (case side2 => exact HC0.out)
            (case side3 => exact cS HR1 HB)
            (case side4 => exact HC1.out)
            rintro e w39 ⟨rfl, hb⟩
            refine ⟨_, rfl, ?_⟩
            replace BK161 := kB BK161 hb
            replace HB := bS HB hb
            (try clear hb)
            (try clear hb2)
            (try clear hk)
            (try clear hi)
            refine hK.out _ _ ⟨bc0 BK161, bc1 BK161, bc2 BK161, bc3 BK161, (hL HB hw163_0), (hL HB hw163_1), (hL HB hw166_0), (hL HB hw166_1), (hL HB hw167_0), (hL HB hw167_1)⟩ (fun hHeld => ?_)
            clear hK K
            refine norm_ (a' := ?_) ?_ ?_
            rotate_left
            ·show Act.put _ (some 27) _ = _
             simp only [Act.put, List.setIfInBounds_toArray, List.set_cons_zero, List.set_cons_succ, i64_w, i32_w]
             rfl
            refine pU 4 (some 28) (bm 37 31) HT_ rfl rfl ?_
            refine pU 6 (some 30) (bm 37 95) HT_ rfl rfl ?_
            refine pU 7 (some 31) (bm 37 223) HT_ rfl rfl ?_
            refine pU 8 (some 32) (bm 37 479) HT_ rfl rfl ?_
            refine tU 5 (some 29) (bm 37 511) HT_ HW_ rfl rfl hHeld ?_
            refine tU 9 (some 33) (bm 37 1023) HT_ HW_ rfl rfl hHeld ?_
            refine one_ (i := 10) (N := some 34) (bm 37 2047) rfl rfl (one_of HT_.out (by kernel_rfl)) (by decide) (fun K hK => ?_)
            refine goes_ Try.func62 (by kernel_rfl) rfl #[.agg #[.int .i64 ((rd_T47 l0 x19_2).f0), .int .i64 ((rd_T47 l0 x19_2).f1), .int .i64 ((rd_T47 l0 x19_2).f2), .int .i64 ((rd_T47 l0 x19_2).f3)], .agg #[.int .i64 ((rd_T58 l1 x19_2).f0), .slice A163_1 ((rd_T58 l1 x19_2).f1).length c163_1]] (by rfl) rfl rfl zG ?_
            with_reducible refine (impl_FitsField.calls ((rd_T47 l0 x19_2).f0) ((rd_T47 l0 x19_2).f1) ((rd_T47 l0 x19_2).f2) ((rd_T47 l0 x19_2).f3) ((rd_T58 l1 x19_2).f0) _ _ ((rd_T58 l1 x19_2).f1) true _ ?side1 ?side2 A15.out).mono ?_
            (case side1 => exact cS HR163_1 HB)
            (case side2 => exact HC163_1.out)
            rintro e w40 ⟨rfl, hb⟩
            refine ⟨_, rfl, ?_⟩
            replace BK161 := kB BK161 hb
            replace HB := bS HB hb
            (try clear hb)
            (try clear hb2)
            (try clear hk)
            (try clear hi)
            refine hK.out _ _ ⟨bc0 BK161, bc1 BK161, bc2 BK161, bc3 BK161, (hL HB hw163_0), (hL HB hw163_1), (hL HB hw166_0), (hL HB hw166_1), (hL HB hw167_0), (hL HB hw167_1)⟩ (fun hHeld => ?_)
            clear hK K
            refine norm_ (a' := ?_) ?_ ?_
            rotate_left
            ·show Act.put _ (some 34) _ = _
             simp only [Act.put, List.setIfInBounds_toArray, List.set_cons_zero, List.set_cons_succ, i64_w, i32_w]
             rfl
            refine pU 11 (some 35) (bm 37 4095) HT_ rfl rfl ?_
            refine pU 12 (some 36) (bm 37 8191) HT_ rfl rfl ?_
            refine pU 13 (some 37) (bm 37 16383) HT_ rfl rfl ?_
            refine pU 14 (some 38) (bm 37 32767) HT_ rfl rfl ?_
            refine pU 15 (some 39) (bm 37 65535) HT_ rfl rfl ?_
            refine pU 16 (some 40) (bm 37 131071) HT_ rfl rfl ?_
            refine one_ (i := 17) (N := some 41) (bm 37 262143) rfl rfl (one_of HT_.out (by kernel_rfl)) (by decide) (fun K hK => ?_)
            refine goes_ Try.func42 (by kernel_rfl) rfl #[.slice (some ad160) l0.length c0, .slice (some ad163) l1.length c1, .int .i64 x19_2] (by rfl) rfl rfl zG ?_
            with_reducible refine (impl_IsThere.calls _ _ l0 _ _ l1 x19_2 false _ ?side1 ?side2 ?side3 ?side4 A17.out).mono ?_
            (case side1 => exact cS HR0 HB)
            (case side2 => exact HC0.out)
            (case side3 => exact cS HR1 HB)
            (case side4 => exact HC1.out)
            rintro e w41 ⟨rfl, hb⟩
            refine ⟨_, rfl, ?_⟩
            replace BK161 := kB BK161 hb
            replace HB := bS HB hb
            (try clear hb)
            (try clear hb2)
            (try clear hk)
            (try clear hi)
            refine hK.out _ _ ⟨bc0 BK161, bc1 BK161, bc2 BK161, bc3 BK161, (hL HB hw163_0), (hL HB hw163_1), (hL HB hw166_0), (hL HB hw166_1), (hL HB hw167_0), (hL HB hw167_1)⟩ (fun hHeld => ?_)
            clear hK K
            refine norm_ (a' := ?_) ?_ ?_
            rotate_left
            ·show Act.put _ (some 41) _ = _
             simp only [Act.put, List.setIfInBounds_toArray, List.set_cons_zero, List.set_cons_succ, i64_w, i32_w]
             rfl
            refine pU 18 (some 42) (bm 37 524287) HT_ rfl rfl ?_
            refine pU 19 (some 43) (bm 37 1048575) HT_ rfl rfl ?_
            refine pU 20 (some 44) (bm 37 2097151) HT_ rfl rfl ?_
            refine pU 21 (some 45) (bm 37 4194303) HT_ rfl rfl ?_
            refine pU 22 (some 46) (bm 37 8388607) HT_ rfl rfl ?_
            refine pU 23 (some 47) (bm 37 16777215) HT_ rfl rfl ?_
            refine tU 24 (some 48) (bm 37 33554431) HT_ HW_ rfl rfl hHeld ?_
            refine pU 25 (some 49) (bm 37 67108863) HT_ rfl rfl ?_
            refine pU 26 (some 50) (bm 37 134217727) HT_ rfl rfl ?_
            refine pU 27 (some 51) (bm 37 268435455) HT_ rfl rfl ?_
            refine pU 28 (some 52) (bm 37 536870911) HT_ rfl rfl ?_
            refine pU 29 (some 53) (bm 37 1073741823) HT_ rfl rfl ?_
            refine pU 30 (some 54) (bm 37 2147483647) HT_ rfl rfl ?_
            refine tU 31 (some 55) (bm 37 4294967295) HT_ HW_ rfl rfl hHeld ?_
            refine pU 32 (some 56) (bm 37 8589934591) HT_ rfl rfl ?_
            refine pU 33 (some 57) (bm 37 17179869183) HT_ rfl rfl ?_
            refine pU 34 (some 58) (bm 37 34359738367) HT_ rfl rfl ?_
            refine pU 35 (some 59) (bm 37 68719476735) HT_ rfl rfl ?_
            refine pU 36 (some 60) (bm 37 137438953471) HT_ rfl rfl ?_
            refine done_ (done_of HT_.out (by kernel_rfl)) ?_
            try clear hHeld
            try go_wp2
            go_roundg k2
            case measure => have := HJ2.out; have := HK2.out; omega
            case rel => exact ⟨(wrap64 (x19_2 + 1)), zF, H', ⟨by have := HJ2.out; have := HK2.out; omega⟩, ⟨zB HB⟩⟩
          ·rw [if_neg c26] at H
           have c26b0 : (((rd_T58 l1 x19_2).f0) == 0) = false := beq_eq_false_iff_ne.mpr c26
           have c26b1 : (((rd_T58 l1 x19_2).f0) != 0) = true := bne_iff_ne.mpr c26
           obtain rfl := Option.some.inj H
           have p160 : 0 ≤ (x19_2 : Int) := zD
           have q160 : x19_2 < (l0.length : Int) := zD
           obtain ⟨ad160, e160, hx160_0, hx160_1, hx160_2, hx160_3⟩ := at_T47 HR0.out x19_2 p160 q160
           cases e160
           replace hx160_0 := hL HB hx160_0
           replace hx160_1 := hL HB hx160_1
           replace hx160_2 := hL HB hx160_2
           replace hx160_3 := hL HB hx160_3
           replace p160 := eq_true p160
           replace q160 := eq_true q160
           try go_wp2_with (first | ((with_reducible refine gate_dst (N := 6) rfl ?_); (try (refine gate_guard (by rfl) ?_; dsimp only)); refine box_event ?hg (N := 6) ?hd (cs := #[.int .i64 0, .int .i64 0, .int .i64 0, .int .i64 0]) (t := 47) ?hr ?_; (case hd => rfl); (case hg => rfl); (case hr => first | (go_simp; done) | (go_simp; rfl)); intro gb161 hg w42 hbox hb; have BK161 := Aside0.mk (hbox); have GW161 := gS HB hg; have GE161 := gS HB hg; replace HB := bS HB hb; clear hb hbox hg; have hcz43_0 := bc0 BK161; have hcz43_1 := bc1 BK161; have hcz43_2 := bc2 BK161; have hcz43_3 := bc3 BK161; have hfz43_0 := bf BK161 0; have hfz43_1 := bf BK161 1; have hfz43_2 := bf BK161 2; have hfz43_3 := bf BK161 3))
           have n0_ : Aside0 (((((w42.setCell ⟨gb161, 0, none⟩ (.int .i64 ((rd_T47 l0 x19_2).f0))).setCell ⟨gb161, 1, none⟩ (.int .i64 ((rd_T47 l0 x19_2).f1))).setCell ⟨gb161, 2, none⟩ (.int .i64 ((rd_T47 l0 x19_2).f2))).setCell ⟨gb161, 3, none⟩ (.int .i64 ((rd_T47 l0 x19_2).f3))).heap[gb161]? = some (.cells #[.int .i64 ((rd_T47 l0 x19_2).f0), .int .i64 ((rd_T47 l0 x19_2).f1), .int .i64 ((rd_T47 l0 x19_2).f2), .int .i64 ((rd_T47 l0 x19_2).f3)] 47 (0, 0))) := ⟨by (with_reducible repeat (first | refine blk_drewN ?_ _ | refine blk_drew ?_ | refine blk_alloc ?_ _)); refine blk_put (cs := #[.int .i64 ((rd_T47 l0 x19_2).f0), .int .i64 ((rd_T47 l0 x19_2).f1), .int .i64 ((rd_T47 l0 x19_2).f2), .int .i64 0]) ?_ 3 _ rfl; (with_reducible repeat (first | refine blk_drewN ?_ _ | refine blk_drew ?_ | refine blk_alloc ?_ _)); refine blk_put (cs := #[.int .i64 ((rd_T47 l0 x19_2).f0), .int .i64 ((rd_T47 l0 x19_2).f1), .int .i64 0, .int .i64 0]) ?_ 2 _ rfl; (with_reducible repeat (first | refine blk_drewN ?_ _ | refine blk_drew ?_ | refine blk_alloc ?_ _)); refine blk_put (cs := #[.int .i64 ((rd_T47 l0 x19_2).f0), .int .i64 0, .int .i64 0, .int .i64 0]) ?_ 1 _ rfl; (with_reducible repeat (first | refine blk_drewN ?_ _ | refine blk_drew ?_ | refine blk_alloc ?_ _)); refine blk_put (cs := #[.int .i64 0, .int .i64 0, .int .i64 0, .int .i64 0]) ?_ 0 _ rfl; (with_reducible repeat (first | refine blk_drewN ?_ _ | refine blk_drew ?_ | refine blk_alloc ?_ _)); exact BK161.out⟩
           have n1_ : Aside0 (Below w.heap.size w ((((w42.setCell ⟨gb161, 0, none⟩ (.int .i64 ((rd_T47 l0 x19_2).f0))).setCell ⟨gb161, 1, none⟩ (.int .i64 ((rd_T47 l0 x19_2).f1))).setCell ⟨gb161, 2, none⟩ (.int .i64 ((rd_T47 l0 x19_2).f2))).setCell ⟨gb161, 3, none⟩ (.int .i64 ((rd_T47 l0 x19_2).f3)))) := ⟨zB HB⟩
           (try clear BK161)
           (try clear HB)
           generalize ((((w42.setCell ⟨gb161, 0, none⟩ (.int .i64 ((rd_T47 l0 x19_2).f0))).setCell ⟨gb161, 1, none⟩ (.int .i64 ((rd_T47 l0 x19_2).f1))).setCell ⟨gb161, 2, none⟩ (.int .i64 ((rd_T47 l0 x19_2).f2))).setCell ⟨gb161, 3, none⟩ (.int .i64 ((rd_T47 l0 x19_2).f3))) = w44 at n0_ n1_ ⊢
           have BK161 := n0_
           have HB := n1_
           clear n0_ n1_
           replace BK161 := Aside0.mk (blk_drew BK161.out)
           replace HB := Aside0.mk (below_drew1 HB.out)
           have p163 : 0 ≤ (x19_2 : Int) := zD
           have q163 : x19_2 < (l1.length : Int) := zD
           obtain ⟨ad163, A163_1, c163_1, e163, hx163_0, hx163_1, hl163_1, hi163_1⟩ := at_T58 HR1.out x19_2 p163 q163
           have hw163_1 := hx163_1
           have hw163_0 := hx163_0
           cases e163
           replace hx163_0 := hL HB hx163_0
           replace hx163_1 := hL HB hx163_1
           have HR163_1 := Aside0.mk hi163_1
           have HC163_1 := Aside0.mk hl163_1
           clear hi163_1 hl163_1
           replace p163 := eq_true p163
           replace q163 := eq_true q163
           have p166 : 0 ≤ (x19_2 : Int) := zD
           have q166 : x19_2 < (l1.length : Int) := zD
           obtain ⟨ad166, A166_1, c166_1, e166, hx166_0, hx166_1, hl166_1, hi166_1⟩ := at_T58 HR1.out x19_2 p166 q166
           have hw166_1 := hx166_1
           have hw166_0 := hx166_0
           obtain rfl : ad163 = ad166 := (by injection e166)
           replace hx166_0 := hL HB hx166_0
           replace hx166_1 := hL HB hx166_1
           have HR166_1 := Aside0.mk hi166_1
           have HC166_1 := Aside0.mk hl166_1
           clear hi166_1 hl166_1
           replace p166 := eq_true p166
           replace q166 := eq_true q166
           refine start_ (n := 37) (S := fun w' => w'.cell? ⟨gb161, 0, none⟩ = some (.int .i64 ((rd_T47 l0 x19_2).f0)) ∧ w'.cell? ⟨gb161, 1, none⟩ = some (.int .i64 ((rd_T47 l0 x19_2).f1)) ∧ w'.cell? ⟨gb161, 2, none⟩ = some (.int .i64 ((rd_T47 l0 x19_2).f2)) ∧ w'.cell? ⟨gb161, 3, none⟩ = some (.int .i64 ((rd_T47 l0 x19_2).f3)) ∧ w'.cell? (ad163.add ((x19_2).toNat * 2)) = some (.int .i64 ((rd_T58 l1 x19_2).f0)) ∧ w'.cell? ⟨(ad163.add ((x19_2).toNat * 2)).block, (ad163.add ((x19_2).toNat * 2)).off + 1, none⟩ = some (.slice A163_1 ((rd_T58 l1 x19_2).f1).length c163_1) ∧ w'.cell? (ad163.add ((x19_2).toNat * 2)) = some (.int .i64 ((rd_T58 l1 x19_2).f0)) ∧ w'.cell? ⟨(ad163.add ((x19_2).toNat * 2)).block, (ad163.add ((x19_2).toNat * 2)).off + 1, none⟩ = some (.slice A166_1 ((rd_T58 l1 x19_2).f1).length c166_1)) (ds := []) (bm 37 0) (by kernel_rfl) rfl (bm0 _) ⟨bc0 BK161, bc1 BK161, bc2 BK161, bc3 BK161, (hL HB hw163_0), (hL HB hw163_1), (hL HB hw166_0), (hL HB hw166_1)⟩ (fun hHeld => ?_); refine with_tabW impl_FitsFormat.tab6 impl_FitsFormat.bits6 (fun HT_ HW_ => ?_)
           generalize w44.drew = w45 at BK161 HB HR163_1 HR166_1 hx163_0 hx163_1 hx166_0 hx166_1 hHeld ⊢
           refine pU 0 (some 24) (bm 37 1) HT_ rfl rfl ?_
           refine pU 1 (some 25) (bm 37 3) HT_ rfl rfl ?_
           refine pU 2 (some 26) (bm 37 7) HT_ rfl rfl ?_
           refine one_ (i := 3) (N := some 27) (bm 37 15) rfl rfl (one_of HT_.out (by kernel_rfl)) (by decide) (fun K hK => ?_)
           refine goes_ Try.func42 (by kernel_rfl) rfl #[.slice (some ad160) l0.length c0, .slice (some ad163) l1.length c1, .int .i64 x19_2] (by rfl) rfl rfl zG ?_
           with_reducible refine (impl_IsThere.calls _ _ l0 _ _ l1 x19_2 true _ ?side1 ?side2 ?side3 ?side4 A12.out).mono ?_
           (case side1 => exact cS HR0 HB)
           (case side2 => exact HC0.out)
           (case side3 => exact cS HR1 HB)
           (case side4 => exact HC1.out)
           rintro e w46 ⟨rfl, hb⟩
           refine ⟨_, rfl, ?_⟩
           replace BK161 := kB BK161 hb
           replace HB := bS HB hb
           (try clear hb)
           (try clear hb2)
           (try clear hk)
           (try clear hi)
           refine hK.out _ _ ⟨bc0 BK161, bc1 BK161, bc2 BK161, bc3 BK161, (hL HB hw163_0), (hL HB hw163_1), (hL HB hw166_0), (hL HB hw166_1)⟩ (fun hHeld => ?_)
           clear hK K
           refine norm_ (a' := ?_) ?_ ?_
           rotate_left
           ·show Act.put _ (some 27) _ = _
            simp only [Act.put, List.setIfInBounds_toArray, List.set_cons_zero, List.set_cons_succ, i64_w, i32_w]
            rfl
           refine pU 4 (some 28) (bm 37 31) HT_ rfl rfl ?_
           refine pU 6 (some 30) (bm 37 95) HT_ rfl rfl ?_
           refine pU 7 (some 31) (bm 37 223) HT_ rfl rfl ?_
           refine pU 8 (some 32) (bm 37 479) HT_ rfl rfl ?_
           refine tU 5 (some 29) (bm 37 511) HT_ HW_ rfl rfl hHeld ?_
           refine tU 9 (some 33) (bm 37 1023) HT_ HW_ rfl rfl hHeld ?_
           refine one_ (i := 10) (N := some 34) (bm 37 2047) rfl rfl (one_of HT_.out (by kernel_rfl)) (by decide) (fun K hK => ?_)
           refine goes_ Try.func62 (by kernel_rfl) rfl #[.agg #[.int .i64 ((rd_T47 l0 x19_2).f0), .int .i64 ((rd_T47 l0 x19_2).f1), .int .i64 ((rd_T47 l0 x19_2).f2), .int .i64 ((rd_T47 l0 x19_2).f3)], .agg #[.int .i64 ((rd_T58 l1 x19_2).f0), .slice A163_1 ((rd_T58 l1 x19_2).f1).length c163_1]] (by rfl) rfl rfl zG ?_
           with_reducible refine (impl_FitsField.calls ((rd_T47 l0 x19_2).f0) ((rd_T47 l0 x19_2).f1) ((rd_T47 l0 x19_2).f2) ((rd_T47 l0 x19_2).f3) ((rd_T58 l1 x19_2).f0) _ _ ((rd_T58 l1 x19_2).f1) true _ ?side1 ?side2 A15.out).mono ?_
           (case side1 => exact cS HR163_1 HB)
           (case side2 => exact HC163_1.out)
           rintro e w47 ⟨rfl, hb⟩
           refine ⟨_, rfl, ?_⟩
           replace BK161 := kB BK161 hb
           replace HB := bS HB hb
           (try clear hb)
           (try clear hb2)
           (try clear hk)
           (try clear hi)
           refine hK.out _ _ ⟨bc0 BK161, bc1 BK161, bc2 BK161, bc3 BK161, (hL HB hw163_0), (hL HB hw163_1), (hL HB hw166_0), (hL HB hw166_1)⟩ (fun hHeld => ?_)
           clear hK K
           refine norm_ (a' := ?_) ?_ ?_
           rotate_left
           ·show Act.put _ (some 34) _ = _
            simp only [Act.put, List.setIfInBounds_toArray, List.set_cons_zero, List.set_cons_succ, i64_w, i32_w]
            rfl
           refine pU 11 (some 35) (bm 37 4095) HT_ rfl rfl ?_
           refine pU 12 (some 36) (bm 37 8191) HT_ rfl rfl ?_
           refine pU 13 (some 37) (bm 37 16383) HT_ rfl rfl ?_
           refine pU 14 (some 38) (bm 37 32767) HT_ rfl rfl ?_
           refine pU 15 (some 39) (bm 37 65535) HT_ rfl rfl ?_
           refine pU 16 (some 40) (bm 37 131071) HT_ rfl rfl ?_
           refine one_ (i := 17) (N := some 41) (bm 37 262143) rfl rfl (one_of HT_.out (by kernel_rfl)) (by decide) (fun K hK => ?_)
           refine goes_ Try.func42 (by kernel_rfl) rfl #[.slice (some ad160) l0.length c0, .slice (some ad163) l1.length c1, .int .i64 x19_2] (by rfl) rfl rfl zG ?_
           with_reducible refine (impl_IsThere.calls _ _ l0 _ _ l1 x19_2 false _ ?side1 ?side2 ?side3 ?side4 A17.out).mono ?_
           (case side1 => exact cS HR0 HB)
           (case side2 => exact HC0.out)
           (case side3 => exact cS HR1 HB)
           (case side4 => exact HC1.out)
           rintro e w48 ⟨rfl, hb⟩
           refine ⟨_, rfl, ?_⟩
           replace BK161 := kB BK161 hb
           replace HB := bS HB hb
           (try clear hb)
           (try clear hb2)
           (try clear hk)
           (try clear hi)
           refine hK.out _ _ ⟨bc0 BK161, bc1 BK161, bc2 BK161, bc3 BK161, (hL HB hw163_0), (hL HB hw163_1), (hL HB hw166_0), (hL HB hw166_1)⟩ (fun hHeld => ?_)
           clear hK K
           refine norm_ (a' := ?_) ?_ ?_
           rotate_left
           ·show Act.put _ (some 41) _ = _
            simp only [Act.put, List.setIfInBounds_toArray, List.set_cons_zero, List.set_cons_succ, i64_w, i32_w]
            rfl
           refine pU 18 (some 42) (bm 37 524287) HT_ rfl rfl ?_
           refine pU 19 (some 43) (bm 37 1048575) HT_ rfl rfl ?_
           refine pU 20 (some 44) (bm 37 2097151) HT_ rfl rfl ?_
           refine pU 21 (some 45) (bm 37 4194303) HT_ rfl rfl ?_
           refine pU 22 (some 46) (bm 37 8388607) HT_ rfl rfl ?_
           refine pU 23 (some 47) (bm 37 16777215) HT_ rfl rfl ?_
           refine tU 24 (some 48) (bm 37 33554431) HT_ HW_ rfl rfl hHeld ?_
           refine pU 25 (some 49) (bm 37 67108863) HT_ rfl rfl ?_
           refine pU 26 (some 50) (bm 37 134217727) HT_ rfl rfl ?_
           refine pV 27 (some 51) (bm 37 268435455) HT_ rfl rfl ?_
           refine pV 28 (some 52) (bm 37 536870911) HT_ rfl rfl ?_
           refine pV 29 (some 53) (bm 37 1073741823) HT_ rfl rfl ?_
           refine pV 30 (some 54) (bm 37 2147483647) HT_ rfl rfl ?_
           refine pV 31 (some 55) (bm 37 4294967295) HT_ rfl rfl ?_
           refine pV 32 (some 56) (bm 37 8589934591) HT_ rfl rfl ?_
           refine pV 33 (some 57) (bm 37 17179869183) HT_ rfl rfl ?_
           refine pU 34 (some 58) (bm 37 34359738367) HT_ rfl rfl ?_
           refine pU 35 (some 59) (bm 37 68719476735) HT_ rfl rfl ?_
           refine pU 36 (some 60) (bm 37 137438953471) HT_ rfl rfl ?_
           refine done_ (done_of HT_.out (by kernel_rfl)) ?_
           try clear hHeld
           try go_wp2
           go_ret
           exact ⟨zE, zB HB⟩
        ·replace c16 := Bool.eq_false_iff.mpr c16
         subst c16
         have H1 : (some false) = some r := by rw [if_neg (show ¬ (false = true) by decide)] at H; exact H
         clear H
         have H := H1
         clear H1
         obtain rfl := Option.some.inj H
         have p160 : 0 ≤ (x19_2 : Int) := zD
         have q160 : x19_2 < (l0.length : Int) := zD
         obtain ⟨ad160, e160, hx160_0, hx160_1, hx160_2, hx160_3⟩ := at_T47 HR0.out x19_2 p160 q160
         cases e160
         replace hx160_0 := hL HB hx160_0
         replace hx160_1 := hL HB hx160_1
         replace hx160_2 := hL HB hx160_2
         replace hx160_3 := hL HB hx160_3
         replace p160 := eq_true p160
         replace q160 := eq_true q160
         try go_wp2_with (first | ((with_reducible refine gate_dst (N := 6) rfl ?_); (try (refine gate_guard (by rfl) ?_; dsimp only)); refine box_event ?hg (N := 6) ?hd (cs := #[.int .i64 0, .int .i64 0, .int .i64 0, .int .i64 0]) (t := 47) ?hr ?_; (case hd => rfl); (case hg => rfl); (case hr => first | (go_simp; done) | (go_simp; rfl)); intro gb161 hg w49 hbox hb; have BK161 := Aside0.mk (hbox); have GW161 := gS HB hg; have GE161 := gS HB hg; replace HB := bS HB hb; clear hb hbox hg; have hcz50_0 := bc0 BK161; have hcz50_1 := bc1 BK161; have hcz50_2 := bc2 BK161; have hcz50_3 := bc3 BK161; have hfz50_0 := bf BK161 0; have hfz50_1 := bf BK161 1; have hfz50_2 := bf BK161 2; have hfz50_3 := bf BK161 3))
         have n0_ : Aside0 (((((w49.setCell ⟨gb161, 0, none⟩ (.int .i64 ((rd_T47 l0 x19_2).f0))).setCell ⟨gb161, 1, none⟩ (.int .i64 ((rd_T47 l0 x19_2).f1))).setCell ⟨gb161, 2, none⟩ (.int .i64 ((rd_T47 l0 x19_2).f2))).setCell ⟨gb161, 3, none⟩ (.int .i64 ((rd_T47 l0 x19_2).f3))).heap[gb161]? = some (.cells #[.int .i64 ((rd_T47 l0 x19_2).f0), .int .i64 ((rd_T47 l0 x19_2).f1), .int .i64 ((rd_T47 l0 x19_2).f2), .int .i64 ((rd_T47 l0 x19_2).f3)] 47 (0, 0))) := ⟨by (with_reducible repeat (first | refine blk_drewN ?_ _ | refine blk_drew ?_ | refine blk_alloc ?_ _)); refine blk_put (cs := #[.int .i64 ((rd_T47 l0 x19_2).f0), .int .i64 ((rd_T47 l0 x19_2).f1), .int .i64 ((rd_T47 l0 x19_2).f2), .int .i64 0]) ?_ 3 _ rfl; (with_reducible repeat (first | refine blk_drewN ?_ _ | refine blk_drew ?_ | refine blk_alloc ?_ _)); refine blk_put (cs := #[.int .i64 ((rd_T47 l0 x19_2).f0), .int .i64 ((rd_T47 l0 x19_2).f1), .int .i64 0, .int .i64 0]) ?_ 2 _ rfl; (with_reducible repeat (first | refine blk_drewN ?_ _ | refine blk_drew ?_ | refine blk_alloc ?_ _)); refine blk_put (cs := #[.int .i64 ((rd_T47 l0 x19_2).f0), .int .i64 0, .int .i64 0, .int .i64 0]) ?_ 1 _ rfl; (with_reducible repeat (first | refine blk_drewN ?_ _ | refine blk_drew ?_ | refine blk_alloc ?_ _)); refine blk_put (cs := #[.int .i64 0, .int .i64 0, .int .i64 0, .int .i64 0]) ?_ 0 _ rfl; (with_reducible repeat (first | refine blk_drewN ?_ _ | refine blk_drew ?_ | refine blk_alloc ?_ _)); exact BK161.out⟩
         have n1_ : Aside0 (Below w.heap.size w ((((w49.setCell ⟨gb161, 0, none⟩ (.int .i64 ((rd_T47 l0 x19_2).f0))).setCell ⟨gb161, 1, none⟩ (.int .i64 ((rd_T47 l0 x19_2).f1))).setCell ⟨gb161, 2, none⟩ (.int .i64 ((rd_T47 l0 x19_2).f2))).setCell ⟨gb161, 3, none⟩ (.int .i64 ((rd_T47 l0 x19_2).f3)))) := ⟨zB HB⟩
         (try clear BK161)
         (try clear HB)
         generalize ((((w49.setCell ⟨gb161, 0, none⟩ (.int .i64 ((rd_T47 l0 x19_2).f0))).setCell ⟨gb161, 1, none⟩ (.int .i64 ((rd_T47 l0 x19_2).f1))).setCell ⟨gb161, 2, none⟩ (.int .i64 ((rd_T47 l0 x19_2).f2))).setCell ⟨gb161, 3, none⟩ (.int .i64 ((rd_T47 l0 x19_2).f3))) = w51 at n0_ n1_ ⊢
         have BK161 := n0_
         have HB := n1_
         clear n0_ n1_
         replace BK161 := Aside0.mk (blk_drew BK161.out)
         replace HB := Aside0.mk (below_drew1 HB.out)
         have p163 : 0 ≤ (x19_2 : Int) := zD
         have q163 : x19_2 < (l1.length : Int) := zD
         obtain ⟨ad163, A163_1, c163_1, e163, hx163_0, hx163_1, hl163_1, hi163_1⟩ := at_T58 HR1.out x19_2 p163 q163
         have hw163_1 := hx163_1
         have hw163_0 := hx163_0
         cases e163
         replace hx163_0 := hL HB hx163_0
         replace hx163_1 := hL HB hx163_1
         have HR163_1 := Aside0.mk hi163_1
         have HC163_1 := Aside0.mk hl163_1
         clear hi163_1 hl163_1
         replace p163 := eq_true p163
         replace q163 := eq_true q163
         refine start_ (n := 37) (S := fun w' => w'.cell? ⟨gb161, 0, none⟩ = some (.int .i64 ((rd_T47 l0 x19_2).f0)) ∧ w'.cell? ⟨gb161, 1, none⟩ = some (.int .i64 ((rd_T47 l0 x19_2).f1)) ∧ w'.cell? ⟨gb161, 2, none⟩ = some (.int .i64 ((rd_T47 l0 x19_2).f2)) ∧ w'.cell? ⟨gb161, 3, none⟩ = some (.int .i64 ((rd_T47 l0 x19_2).f3)) ∧ w'.cell? (ad163.add ((x19_2).toNat * 2)) = some (.int .i64 ((rd_T58 l1 x19_2).f0)) ∧ w'.cell? ⟨(ad163.add ((x19_2).toNat * 2)).block, (ad163.add ((x19_2).toNat * 2)).off + 1, none⟩ = some (.slice A163_1 ((rd_T58 l1 x19_2).f1).length c163_1)) (ds := []) (bm 37 0) (by kernel_rfl) rfl (bm0 _) ⟨bc0 BK161, bc1 BK161, bc2 BK161, bc3 BK161, (hL HB hw163_0), (hL HB hw163_1)⟩ (fun hHeld => ?_); refine with_tabW impl_FitsFormat.tab6 impl_FitsFormat.bits6 (fun HT_ HW_ => ?_)
         generalize w51.drew = w52 at BK161 HB HR163_1 hx163_0 hx163_1 hHeld ⊢
         refine pU 0 (some 24) (bm 37 1) HT_ rfl rfl ?_
         refine pU 1 (some 25) (bm 37 3) HT_ rfl rfl ?_
         refine pU 2 (some 26) (bm 37 7) HT_ rfl rfl ?_
         refine one_ (i := 3) (N := some 27) (bm 37 15) rfl rfl (one_of HT_.out (by kernel_rfl)) (by decide) (fun K hK => ?_)
         refine goes_ Try.func42 (by kernel_rfl) rfl #[.slice (some ad160) l0.length c0, .slice (some ad163) l1.length c1, .int .i64 x19_2] (by rfl) rfl rfl zG ?_
         with_reducible refine (impl_IsThere.calls _ _ l0 _ _ l1 x19_2 true _ ?side1 ?side2 ?side3 ?side4 A12.out).mono ?_
         (case side1 => exact cS HR0 HB)
         (case side2 => exact HC0.out)
         (case side3 => exact cS HR1 HB)
         (case side4 => exact HC1.out)
         rintro e w53 ⟨rfl, hb⟩
         refine ⟨_, rfl, ?_⟩
         replace BK161 := kB BK161 hb
         replace HB := bS HB hb
         (try clear hb)
         (try clear hb2)
         (try clear hk)
         (try clear hi)
         refine hK.out _ _ ⟨bc0 BK161, bc1 BK161, bc2 BK161, bc3 BK161, (hL HB hw163_0), (hL HB hw163_1)⟩ (fun hHeld => ?_)
         clear hK K
         refine norm_ (a' := ?_) ?_ ?_
         rotate_left
         ·show Act.put _ (some 27) _ = _
          simp only [Act.put, List.setIfInBounds_toArray, List.set_cons_zero, List.set_cons_succ, i64_w, i32_w]
          rfl
         refine pU 4 (some 28) (bm 37 31) HT_ rfl rfl ?_
         refine pU 6 (some 30) (bm 37 95) HT_ rfl rfl ?_
         refine pU 7 (some 31) (bm 37 223) HT_ rfl rfl ?_
         refine pU 8 (some 32) (bm 37 479) HT_ rfl rfl ?_
         refine tU 5 (some 29) (bm 37 511) HT_ HW_ rfl rfl hHeld ?_
         refine tU 9 (some 33) (bm 37 1023) HT_ HW_ rfl rfl hHeld ?_
         refine one_ (i := 10) (N := some 34) (bm 37 2047) rfl rfl (one_of HT_.out (by kernel_rfl)) (by decide) (fun K hK => ?_)
         refine goes_ Try.func62 (by kernel_rfl) rfl #[.agg #[.int .i64 ((rd_T47 l0 x19_2).f0), .int .i64 ((rd_T47 l0 x19_2).f1), .int .i64 ((rd_T47 l0 x19_2).f2), .int .i64 ((rd_T47 l0 x19_2).f3)], .agg #[.int .i64 ((rd_T58 l1 x19_2).f0), .slice A163_1 ((rd_T58 l1 x19_2).f1).length c163_1]] (by rfl) rfl rfl zG ?_
         with_reducible refine (impl_FitsField.calls ((rd_T47 l0 x19_2).f0) ((rd_T47 l0 x19_2).f1) ((rd_T47 l0 x19_2).f2) ((rd_T47 l0 x19_2).f3) ((rd_T58 l1 x19_2).f0) _ _ ((rd_T58 l1 x19_2).f1) false _ ?side1 ?side2 A15.out).mono ?_
         (case side1 => exact cS HR163_1 HB)
         (case side2 => exact HC163_1.out)
         rintro e w54 ⟨rfl, hb⟩
         refine ⟨_, rfl, ?_⟩
         replace BK161 := kB BK161 hb
         replace HB := bS HB hb
         (try clear hb)
         (try clear hb2)
         (try clear hk)
         (try clear hi)
         refine hK.out _ _ ⟨bc0 BK161, bc1 BK161, bc2 BK161, bc3 BK161, (hL HB hw163_0), (hL HB hw163_1)⟩ (fun hHeld => ?_)
         clear hK K
         refine norm_ (a' := ?_) ?_ ?_
         rotate_left
         ·show Act.put _ (some 34) _ = _
          simp only [Act.put, List.setIfInBounds_toArray, List.set_cons_zero, List.set_cons_succ, i64_w, i32_w]
          rfl
         refine pU 11 (some 35) (bm 37 4095) HT_ rfl rfl ?_
         refine pU 12 (some 36) (bm 37 8191) HT_ rfl rfl ?_
         refine pU 13 (some 37) (bm 37 16383) HT_ rfl rfl ?_
         refine pV 14 (some 38) (bm 37 32767) HT_ rfl rfl ?_
         refine pV 15 (some 39) (bm 37 65535) HT_ rfl rfl ?_
         refine pV 16 (some 40) (bm 37 131071) HT_ rfl rfl ?_
         refine pV 17 (some 41) (bm 37 262143) HT_ rfl rfl ?_
         refine pV 18 (some 42) (bm 37 524287) HT_ rfl rfl ?_
         refine pV 19 (some 43) (bm 37 1048575) HT_ rfl rfl ?_
         refine pV 20 (some 44) (bm 37 2097151) HT_ rfl rfl ?_
         refine pV 21 (some 45) (bm 37 4194303) HT_ rfl rfl ?_
         refine pV 22 (some 46) (bm 37 8388607) HT_ rfl rfl ?_
         refine pV 23 (some 47) (bm 37 16777215) HT_ rfl rfl ?_
         refine pV 24 (some 48) (bm 37 33554431) HT_ rfl rfl ?_
         refine pV 25 (some 49) (bm 37 67108863) HT_ rfl rfl ?_
         refine pV 26 (some 50) (bm 37 134217727) HT_ rfl rfl ?_
         refine pV 27 (some 51) (bm 37 268435455) HT_ rfl rfl ?_
         refine pV 28 (some 52) (bm 37 536870911) HT_ rfl rfl ?_
         refine pV 29 (some 53) (bm 37 1073741823) HT_ rfl rfl ?_
         refine pV 30 (some 54) (bm 37 2147483647) HT_ rfl rfl ?_
         refine pV 31 (some 55) (bm 37 4294967295) HT_ rfl rfl ?_
         refine pV 32 (some 56) (bm 37 8589934591) HT_ rfl rfl ?_
         refine pV 33 (some 57) (bm 37 17179869183) HT_ rfl rfl ?_
         refine pV 34 (some 58) (bm 37 34359738367) HT_ rfl rfl ?_
         refine pV 35 (some 59) (bm 37 68719476735) HT_ rfl rfl ?_
         refine pU 36 (some 60) (bm 37 137438953471) HT_ rfl rfl ?_
         refine done_ (done_of HT_.out (by kernel_rfl)) ?_
         try clear hHeld
         try go_wp2
         go_ret
         exact ⟨zE, zB HB⟩
       ·replace c13 := Bool.eq_false_iff.mpr c13
        subst c13
        have H1 : ((impl_IsThere.f l0 l1 x19_2).bind fun t168 => (if t168 = true then (impl_FitsFormat.l0 k2 l0 l1 l0 (l0.length : Int) (wrap64 (x19_2 + 1))) else (if x19_2 < (l1.length : Int) then (if ((rd_T58 l1 x19_2).f0) = 0 then (if (((rd_T58 l1 x19_2).f1).length : Int) > 0 then (some false) else (impl_FitsFormat.l0 k2 l0 l1 l0 (l0.length : Int) (wrap64 (x19_2 + 1)))) else (some false)) else (none)))) = some r := by rw [if_neg (show ¬ (false = true) by decide)] at H; exact H
        clear H
        have H := H1
        clear H1
        obtain ⟨t168, A55, H⟩ := bindS H
        by_cases c56 : t168 = true
        ·subst c56
         have H1 : (impl_FitsFormat.l0 k2 l0 l1 l0 (l0.length : Int) (wrap64 (x19_2 + 1))) = some r := by rw [if_pos rfl] at H; exact H
         clear H
         have H := H1
         clear H1
         have H' := Aside0.mk H
         clear H
         have p160 : 0 ≤ (x19_2 : Int) := zD
         have q160 : x19_2 < (l0.length : Int) := zD
         obtain ⟨ad160, e160, hx160_0, hx160_1, hx160_2, hx160_3⟩ := at_T47 HR0.out x19_2 p160 q160
         cases e160
         replace hx160_0 := hL HB hx160_0
         replace hx160_1 := hL HB hx160_1
         replace hx160_2 := hL HB hx160_2
         replace hx160_3 := hL HB hx160_3
         replace p160 := eq_true p160
         replace q160 := eq_true q160
         try go_wp2_with (first | ((with_reducible refine gate_dst (N := 6) rfl ?_); (try (refine gate_guard (by rfl) ?_; dsimp only)); refine box_event ?hg (N := 6) ?hd (cs := #[.int .i64 0, .int .i64 0, .int .i64 0, .int .i64 0]) (t := 47) ?hr ?_; (case hd => rfl); (case hg => rfl); (case hr => first | (go_simp; done) | (go_simp; rfl)); intro gb161 hg w57 hbox hb; have BK161 := Aside0.mk (hbox); have GW161 := gS HB hg; have GE161 := gS HB hg; replace HB := bS HB hb; clear hb hbox hg; have hcz58_0 := bc0 BK161; have hcz58_1 := bc1 BK161; have hcz58_2 := bc2 BK161; have hcz58_3 := bc3 BK161; have hfz58_0 := bf BK161 0; have hfz58_1 := bf BK161 1; have hfz58_2 := bf BK161 2; have hfz58_3 := bf BK161 3))
         have n0_ : Aside0 (((((w57.setCell ⟨gb161, 0, none⟩ (.int .i64 ((rd_T47 l0 x19_2).f0))).setCell ⟨gb161, 1, none⟩ (.int .i64 ((rd_T47 l0 x19_2).f1))).setCell ⟨gb161, 2, none⟩ (.int .i64 ((rd_T47 l0 x19_2).f2))).setCell ⟨gb161, 3, none⟩ (.int .i64 ((rd_T47 l0 x19_2).f3))).heap[gb161]? = some (.cells #[.int .i64 ((rd_T47 l0 x19_2).f0), .int .i64 ((rd_T47 l0 x19_2).f1), .int .i64 ((rd_T47 l0 x19_2).f2), .int .i64 ((rd_T47 l0 x19_2).f3)] 47 (0, 0))) := ⟨by (with_reducible repeat (first | refine blk_drewN ?_ _ | refine blk_drew ?_ | refine blk_alloc ?_ _)); refine blk_put (cs := #[.int .i64 ((rd_T47 l0 x19_2).f0), .int .i64 ((rd_T47 l0 x19_2).f1), .int .i64 ((rd_T47 l0 x19_2).f2), .int .i64 0]) ?_ 3 _ rfl; (with_reducible repeat (first | refine blk_drewN ?_ _ | refine blk_drew ?_ | refine blk_alloc ?_ _)); refine blk_put (cs := #[.int .i64 ((rd_T47 l0 x19_2).f0), .int .i64 ((rd_T47 l0 x19_2).f1), .int .i64 0, .int .i64 0]) ?_ 2 _ rfl; (with_reducible repeat (first | refine blk_drewN ?_ _ | refine blk_drew ?_ | refine blk_alloc ?_ _)); refine blk_put (cs := #[.int .i64 ((rd_T47 l0 x19_2).f0), .int .i64 0, .int .i64 0, .int .i64 0]) ?_ 1 _ rfl; (with_reducible repeat (first | refine blk_drewN ?_ _ | refine blk_drew ?_ | refine blk_alloc ?_ _)); refine blk_put (cs := #[.int .i64 0, .int .i64 0, .int .i64 0, .int .i64 0]) ?_ 0 _ rfl; (with_reducible repeat (first | refine blk_drewN ?_ _ | refine blk_drew ?_ | refine blk_alloc ?_ _)); exact BK161.out⟩
         have n1_ : Aside0 (Below w.heap.size w ((((w57.setCell ⟨gb161, 0, none⟩ (.int .i64 ((rd_T47 l0 x19_2).f0))).setCell ⟨gb161, 1, none⟩ (.int .i64 ((rd_T47 l0 x19_2).f1))).setCell ⟨gb161, 2, none⟩ (.int .i64 ((rd_T47 l0 x19_2).f2))).setCell ⟨gb161, 3, none⟩ (.int .i64 ((rd_T47 l0 x19_2).f3)))) := ⟨zB HB⟩
         (try clear BK161)
         (try clear HB)
         generalize ((((w57.setCell ⟨gb161, 0, none⟩ (.int .i64 ((rd_T47 l0 x19_2).f0))).setCell ⟨gb161, 1, none⟩ (.int .i64 ((rd_T47 l0 x19_2).f1))).setCell ⟨gb161, 2, none⟩ (.int .i64 ((rd_T47 l0 x19_2).f2))).setCell ⟨gb161, 3, none⟩ (.int .i64 ((rd_T47 l0 x19_2).f3))) = w59 at n0_ n1_ ⊢
         have BK161 := n0_
         have HB := n1_
         clear n0_ n1_
         replace BK161 := Aside0.mk (blk_drew BK161.out)
         replace HB := Aside0.mk (below_drew1 HB.out)
         refine start_ (n := 37) (S := fun w' => True) (ds := []) (bm 37 0) (by kernel_rfl) rfl (bm0 _) trivial (fun hHeld => ?_); refine with_tabW impl_FitsFormat.tab6 impl_FitsFormat.bits6 (fun HT_ HW_ => ?_)
         generalize w59.drew = w60 at BK161 HB hHeld ⊢
         refine pU 0 (some 24) (bm 37 1) HT_ rfl rfl ?_
         refine pU 1 (some 25) (bm 37 3) HT_ rfl rfl ?_
         refine pU 2 (some 26) (bm 37 7) HT_ rfl rfl ?_
         refine one_ (i := 3) (N := some 27) (bm 37 15) rfl rfl (one_of HT_.out (by kernel_rfl)) (by decide) (fun K hK => ?_)
         refine goes_ Try.func42 (by kernel_rfl) rfl #[.slice (some ad160) l0.length c0, .slice A1 l1.length c1, .int .i64 x19_2] (by rfl) rfl rfl zG ?_
         with_reducible refine (impl_IsThere.calls _ _ l0 _ _ l1 x19_2 false _ ?side1 ?side2 ?side3 ?side4 A12.out).mono ?_
         (case side1 => exact cS HR0 HB)
         (case side2 => exact HC0.out)
         (case side3 => exact cS HR1 HB)
         (case side4 => exact HC1.out)
         rintro e w61 ⟨rfl, hb⟩
         refine ⟨_, rfl, ?_⟩
         replace BK161 := kB BK161 hb
         replace HB := bS HB hb
         (try clear hb)
         (try clear hb2)
         (try clear hk)
         (try clear hi)
         refine hK.out _ _ trivial (fun hHeld => ?_)
         clear hK K
         refine norm_ (a' := ?_) ?_ ?_
         rotate_left
         ·show Act.put _ (some 27) _ = _
          simp only [Act.put, List.setIfInBounds_toArray, List.set_cons_zero, List.set_cons_succ, i64_w, i32_w]
          rfl
         refine pU 4 (some 28) (bm 37 31) HT_ rfl rfl ?_
         refine pV 5 (some 29) (bm 37 63) HT_ rfl rfl ?_
         refine pV 6 (some 30) (bm 37 127) HT_ rfl rfl ?_
         refine pV 7 (some 31) (bm 37 255) HT_ rfl rfl ?_
         refine pV 8 (some 32) (bm 37 511) HT_ rfl rfl ?_
         refine pV 9 (some 33) (bm 37 1023) HT_ rfl rfl ?_
         refine pV 10 (some 34) (bm 37 2047) HT_ rfl rfl ?_
         refine pV 11 (some 35) (bm 37 4095) HT_ rfl rfl ?_
         refine pU 12 (some 36) (bm 37 8191) HT_ rfl rfl ?_
         refine pU 13 (some 37) (bm 37 16383) HT_ rfl rfl ?_
         refine pU 14 (some 38) (bm 37 32767) HT_ rfl rfl ?_
         refine pU 15 (some 39) (bm 37 65535) HT_ rfl rfl ?_
         refine pU 16 (some 40) (bm 37 131071) HT_ rfl rfl ?_
         refine one_ (i := 17) (N := some 41) (bm 37 262143) rfl rfl (one_of HT_.out (by kernel_rfl)) (by decide) (fun K hK => ?_)
         refine goes_ Try.func42 (by kernel_rfl) rfl #[.slice (some ad160) l0.length c0, .slice A1 l1.length c1, .int .i64 x19_2] (by rfl) rfl rfl zG ?_
         with_reducible refine (impl_IsThere.calls _ _ l0 _ _ l1 x19_2 true _ ?side1 ?side2 ?side3 ?side4 A55.out).mono ?_
         (case side1 => exact cS HR0 HB)
         (case side2 => exact HC0.out)
         (case side3 => exact cS HR1 HB)
         (case side4 => exact HC1.out)
         rintro e w62 ⟨rfl, hb⟩
         refine ⟨_, rfl, ?_⟩
         replace BK161 := kB BK161 hb
         replace HB := bS HB hb
         (try clear hb)
         (try clear hb2)
         (try clear hk)
         (try clear hi)
         refine hK.out _ _ trivial (fun hHeld => ?_)
         clear hK K
         refine norm_ (a' := ?_) ?_ ?_
         rotate_left
         ·show Act.put _ (some 41) _ = _
          simp only [Act.put, List.setIfInBounds_toArray, List.set_cons_zero, List.set_cons_succ, i64_w, i32_w]
          rfl
         refine pU 18 (some 42) (bm 37 524287) HT_ rfl rfl ?_
         refine pU 19 (some 43) (bm 37 1048575) HT_ rfl rfl ?_
         refine pV 20 (some 44) (bm 37 2097151) HT_ rfl rfl ?_
         refine pV 21 (some 45) (bm 37 4194303) HT_ rfl rfl ?_
         refine pV 22 (some 46) (bm 37 8388607) HT_ rfl rfl ?_
         refine pV 23 (some 47) (bm 37 16777215) HT_ rfl rfl ?_
         refine pV 24 (some 48) (bm 37 33554431) HT_ rfl rfl ?_
         refine pV 25 (some 49) (bm 37 67108863) HT_ rfl rfl ?_
         refine pV 26 (some 50) (bm 37 134217727) HT_ rfl rfl ?_
         refine pV 27 (some 51) (bm 37 268435455) HT_ rfl rfl ?_
         refine pV 28 (some 52) (bm 37 536870911) HT_ rfl rfl ?_
         refine pV 29 (some 53) (bm 37 1073741823) HT_ rfl rfl ?_
         refine pV 30 (some 54) (bm 37 2147483647) HT_ rfl rfl ?_
         refine pV 31 (some 55) (bm 37 4294967295) HT_ rfl rfl ?_
         refine pV 32 (some 56) (bm 37 8589934591) HT_ rfl rfl ?_
         refine pV 33 (some 57) (bm 37 17179869183) HT_ rfl rfl ?_
         refine pV 34 (some 58) (bm 37 34359738367) HT_ rfl rfl ?_
         refine pU 35 (some 59) (bm 37 68719476735) HT_ rfl rfl ?_
         refine pU 36 (some 60) (bm 37 137438953471) HT_ rfl rfl ?_
         refine done_ (done_of HT_.out (by kernel_rfl)) ?_
         try clear hHeld
         try go_wp2
         go_roundg k2
         case measure => have := HJ2.out; have := HK2.out; omega
         case rel => exact ⟨(wrap64 (x19_2 + 1)), zF, H', ⟨by have := HJ2.out; have := HK2.out; omega⟩, ⟨zB HB⟩⟩
        ·replace c56 := Bool.eq_false_iff.mpr c56
         subst c56
         have H1 : (if x19_2 < (l1.length : Int) then (if ((rd_T58 l1 x19_2).f0) = 0 then (if (((rd_T58 l1 x19_2).f1).length : Int) > 0 then (some false) else (impl_FitsFormat.l0 k2 l0 l1 l0 (l0.length : Int) (wrap64 (x19_2 + 1)))) else (some false)) else (none)) = some r := by rw [if_neg (show ¬ (false = true) by decide)] at H; exact H
         clear H
         have H := H1
         clear H1
         obtain ⟨c63, H⟩ := ifS H
         have c63b0 : decide (x19_2 < (l1.length : Int)) = true := decide_eq_true c63
         clear c63
         by_cases c64 : ((rd_T58 l1 x19_2).f0) = 0
         ·rw [if_pos c64] at H
          have c64b0 : (((rd_T58 l1 x19_2).f0) == 0) = true := beq_iff_eq.mpr c64
          have c64b1 : (((rd_T58 l1 x19_2).f0) != 0) = false := bne_eq_false_iff_eq.mpr c64
          clear c64
          by_cases c65 : (((rd_T58 l1 x19_2).f1).length : Int) > 0
          ·rw [if_pos c65] at H
           have c65b0 : decide (0 < (((rd_T58 l1 x19_2).f1).length : Int)) = true := decide_eq_true c65
           have c65b1 : decide (0 < ((rd_T58 l1 x19_2).f1).length) = true := decide_eq_true (by omega)
           clear c65
           obtain rfl := Option.some.inj H
           have p160 : 0 ≤ (x19_2 : Int) := zD
           have q160 : x19_2 < (l0.length : Int) := zD
           obtain ⟨ad160, e160, hx160_0, hx160_1, hx160_2, hx160_3⟩ := at_T47 HR0.out x19_2 p160 q160
           cases e160
           replace hx160_0 := hL HB hx160_0
           replace hx160_1 := hL HB hx160_1
           replace hx160_2 := hL HB hx160_2
           replace hx160_3 := hL HB hx160_3
           replace p160 := eq_true p160
           replace q160 := eq_true q160
           try go_wp2_with (first | ((with_reducible refine gate_dst (N := 6) rfl ?_); (try (refine gate_guard (by rfl) ?_; dsimp only)); refine box_event ?hg (N := 6) ?hd (cs := #[.int .i64 0, .int .i64 0, .int .i64 0, .int .i64 0]) (t := 47) ?hr ?_; (case hd => rfl); (case hg => rfl); (case hr => first | (go_simp; done) | (go_simp; rfl)); intro gb161 hg w66 hbox hb; have BK161 := Aside0.mk (hbox); have GW161 := gS HB hg; have GE161 := gS HB hg; replace HB := bS HB hb; clear hb hbox hg; have hcz67_0 := bc0 BK161; have hcz67_1 := bc1 BK161; have hcz67_2 := bc2 BK161; have hcz67_3 := bc3 BK161; have hfz67_0 := bf BK161 0; have hfz67_1 := bf BK161 1; have hfz67_2 := bf BK161 2; have hfz67_3 := bf BK161 3))
           have n0_ : Aside0 (((((w66.setCell ⟨gb161, 0, none⟩ (.int .i64 ((rd_T47 l0 x19_2).f0))).setCell ⟨gb161, 1, none⟩ (.int .i64 ((rd_T47 l0 x19_2).f1))).setCell ⟨gb161, 2, none⟩ (.int .i64 ((rd_T47 l0 x19_2).f2))).setCell ⟨gb161, 3, none⟩ (.int .i64 ((rd_T47 l0 x19_2).f3))).heap[gb161]? = some (.cells #[.int .i64 ((rd_T47 l0 x19_2).f0), .int .i64 ((rd_T47 l0 x19_2).f1), .int .i64 ((rd_T47 l0 x19_2).f2), .int .i64 ((rd_T47 l0 x19_2).f3)] 47 (0, 0))) := ⟨by (with_reducible repeat (first | refine blk_drewN ?_ _ | refine blk_drew ?_ | refine blk_alloc ?_ _)); refine blk_put (cs := #[.int .i64 ((rd_T47 l0 x19_2).f0), .int .i64 ((rd_T47 l0 x19_2).f1), .int .i64 ((rd_T47 l0 x19_2).f2), .int .i64 0]) ?_ 3 _ rfl; (with_reducible repeat (first | refine blk_drewN ?_ _ | refine blk_drew ?_ | refine blk_alloc ?_ _)); refine blk_put (cs := #[.int .i64 ((rd_T47 l0 x19_2).f0), .int .i64 ((rd_T47 l0 x19_2).f1), .int .i64 0, .int .i64 0]) ?_ 2 _ rfl; (with_reducible repeat (first | refine blk_drewN ?_ _ | refine blk_drew ?_ | refine blk_alloc ?_ _)); refine blk_put (cs := #[.int .i64 ((rd_T47 l0 x19_2).f0), .int .i64 0, .int .i64 0, .int .i64 0]) ?_ 1 _ rfl; (with_reducible repeat (first | refine blk_drewN ?_ _ | refine blk_drew ?_ | refine blk_alloc ?_ _)); refine blk_put (cs := #[.int .i64 0, .int .i64 0, .int .i64 0, .int .i64 0]) ?_ 0 _ rfl; (with_reducible repeat (first | refine blk_drewN ?_ _ | refine blk_drew ?_ | refine blk_alloc ?_ _)); exact BK161.out⟩
           have n1_ : Aside0 (Below w.heap.size w ((((w66.setCell ⟨gb161, 0, none⟩ (.int .i64 ((rd_T47 l0 x19_2).f0))).setCell ⟨gb161, 1, none⟩ (.int .i64 ((rd_T47 l0 x19_2).f1))).setCell ⟨gb161, 2, none⟩ (.int .i64 ((rd_T47 l0 x19_2).f2))).setCell ⟨gb161, 3, none⟩ (.int .i64 ((rd_T47 l0 x19_2).f3)))) := ⟨zB HB⟩
           (try clear BK161)
           (try clear HB)
           generalize ((((w66.setCell ⟨gb161, 0, none⟩ (.int .i64 ((rd_T47 l0 x19_2).f0))).setCell ⟨gb161, 1, none⟩ (.int .i64 ((rd_T47 l0 x19_2).f1))).setCell ⟨gb161, 2, none⟩ (.int .i64 ((rd_T47 l0 x19_2).f2))).setCell ⟨gb161, 3, none⟩ (.int .i64 ((rd_T47 l0 x19_2).f3))) = w68 at n0_ n1_ ⊢
           have BK161 := n0_
           have HB := n1_
           clear n0_ n1_
           replace BK161 := Aside0.mk (blk_drew BK161.out)
           replace HB := Aside0.mk (below_drew1 HB.out)
           have p169 : 0 ≤ (x19_2 : Int) := zD
           have q169 : x19_2 < (l1.length : Int) := zD
           obtain ⟨ad169, A169_1, c169_1, e169, hx169_0, hx169_1, hl169_1, hi169_1⟩ := at_T58 HR1.out x19_2 p169 q169
           have hw169_1 := hx169_1
           have hw169_0 := hx169_0
           cases e169
           replace hx169_0 := hL HB hx169_0
           replace hx169_1 := hL HB hx169_1
           have HR169_1 := Aside0.mk hi169_1
           have HC169_1 := Aside0.mk hl169_1
           clear hi169_1 hl169_1
           replace p169 := eq_true p169
           replace q169 := eq_true q169
           have p170 : 0 ≤ (x19_2 : Int) := zD
           have q170 : x19_2 < (l1.length : Int) := zD
           obtain ⟨ad170, A170_1, c170_1, e170, hx170_0, hx170_1, hl170_1, hi170_1⟩ := at_T58 HR1.out x19_2 p170 q170
           have hw170_1 := hx170_1
           have hw170_0 := hx170_0
           obtain rfl : ad169 = ad170 := (by injection e170)
           replace hx170_0 := hL HB hx170_0
           replace hx170_1 := hL HB hx170_1
           have HR170_1 := Aside0.mk hi170_1
           have HC170_1 := Aside0.mk hl170_1
           clear hi170_1 hl170_1
           replace p170 := eq_true p170
           replace q170 := eq_true q170
           have ea_ := Option.some.inj (hx169_1.symm.trans hx170_1)
           injection ea_ with ea_ en_ ec_
           subst ea_
           subst ec_
           clear en_
           refine start_ (n := 37) (S := fun w' => w'.cell? (ad169.add ((x19_2).toNat * 2)) = some (.int .i64 ((rd_T58 l1 x19_2).f0)) ∧ w'.cell? ⟨(ad169.add ((x19_2).toNat * 2)).block, (ad169.add ((x19_2).toNat * 2)).off + 1, none⟩ = some (.slice A169_1 ((rd_T58 l1 x19_2).f1).length c169_1) ∧ w'.cell? (ad169.add ((x19_2).toNat * 2)) = some (.int .i64 ((rd_T58 l1 x19_2).f0)) ∧ w'.cell? ⟨(ad169.add ((x19_2).toNat * 2)).block, (ad169.add ((x19_2).toNat * 2)).off + 1, none⟩ = some (.slice A169_1 ((rd_T58 l1 x19_2).f1).length c169_1)) (ds := []) (bm 37 0) (by kernel_rfl) rfl (bm0 _) ⟨(hL HB hw169_0), (hL HB hw169_1), (hL HB hw170_0), (hL HB hw170_1)⟩ (fun hHeld => ?_); refine with_tabW impl_FitsFormat.tab6 impl_FitsFormat.bits6 (fun HT_ HW_ => ?_)
           generalize w68.drew = w69 at BK161 HB HR169_1 HR170_1 hx169_0 hx169_1 hx170_0 hx170_1 hHeld ⊢
           refine pU 0 (some 24) (bm 37 1) HT_ rfl rfl ?_
           refine pU 1 (some 25) (bm 37 3) HT_ rfl rfl ?_
           refine pU 2 (some 26) (bm 37 7) HT_ rfl rfl ?_
           refine one_ (i := 3) (N := some 27) (bm 37 15) rfl rfl (one_of HT_.out (by kernel_rfl)) (by decide) (fun K hK => ?_)
           refine goes_ Try.func42 (by kernel_rfl) rfl #[.slice (some ad160) l0.length c0, .slice (some ad169) l1.length c1, .int .i64 x19_2] (by rfl) rfl rfl zG ?_
           with_reducible refine (impl_IsThere.calls _ _ l0 _ _ l1 x19_2 false _ ?side1 ?side2 ?side3 ?side4 A12.out).mono ?_
           (case side1 => exact cS HR0 HB)
           (case side2 => exact HC0.out)
           (case side3 => exact cS HR1 HB)
           (case side4 => exact HC1.out)
           rintro e w70 ⟨rfl, hb⟩
           refine ⟨_, rfl, ?_⟩
           replace BK161 := kB BK161 hb
           replace HB := bS HB hb
           (try clear hb)
           (try clear hb2)
           (try clear hk)
           (try clear hi)
           refine hK.out _ _ ⟨(hL HB hw169_0), (hL HB hw169_1), (hL HB hw170_0), (hL HB hw170_1)⟩ (fun hHeld => ?_)
           clear hK K
           refine norm_ (a' := ?_) ?_ ?_
           rotate_left
           ·show Act.put _ (some 27) _ = _
            simp only [Act.put, List.setIfInBounds_toArray, List.set_cons_zero, List.set_cons_succ, i64_w, i32_w]
            rfl
           refine pU 4 (some 28) (bm 37 31) HT_ rfl rfl ?_
           refine pV 5 (some 29) (bm 37 63) HT_ rfl rfl ?_
           refine pV 6 (some 30) (bm 37 127) HT_ rfl rfl ?_
           refine pV 7 (some 31) (bm 37 255) HT_ rfl rfl ?_
           refine pV 8 (some 32) (bm 37 511) HT_ rfl rfl ?_
           refine pV 9 (some 33) (bm 37 1023) HT_ rfl rfl ?_
           refine pV 10 (some 34) (bm 37 2047) HT_ rfl rfl ?_
           refine pV 11 (some 35) (bm 37 4095) HT_ rfl rfl ?_
           refine pU 12 (some 36) (bm 37 8191) HT_ rfl rfl ?_
           refine pU 13 (some 37) (bm 37 16383) HT_ rfl rfl ?_
           refine pU 14 (some 38) (bm 37 32767) HT_ rfl rfl ?_
           refine pU 15 (some 39) (bm 37 65535) HT_ rfl rfl ?_
           refine pU 16 (some 40) (bm 37 131071) HT_ rfl rfl ?_
           refine one_ (i := 17) (N := some 41) (bm 37 262143) rfl rfl (one_of HT_.out (by kernel_rfl)) (by decide) (fun K hK => ?_)
           refine goes_ Try.func42 (by kernel_rfl) rfl #[.slice (some ad160) l0.length c0, .slice (some ad169) l1.length c1, .int .i64 x19_2] (by rfl) rfl rfl zG ?_
           with_reducible refine (impl_IsThere.calls _ _ l0 _ _ l1 x19_2 false _ ?side1 ?side2 ?side3 ?side4 A55.out).mono ?_
           (case side1 => exact cS HR0 HB)
           (case side2 => exact HC0.out)
           (case side3 => exact cS HR1 HB)
           (case side4 => exact HC1.out)
           rintro e w71 ⟨rfl, hb⟩
           refine ⟨_, rfl, ?_⟩
           replace BK161 := kB BK161 hb
           replace HB := bS HB hb
           (try clear hb)
           (try clear hb2)
           (try clear hk)
           (try clear hi)
           refine hK.out _ _ ⟨(hL HB hw169_0), (hL HB hw169_1), (hL HB hw170_0), (hL HB hw170_1)⟩ (fun hHeld => ?_)
           clear hK K
           refine norm_ (a' := ?_) ?_ ?_
           rotate_left
           ·show Act.put _ (some 41) _ = _
            simp only [Act.put, List.setIfInBounds_toArray, List.set_cons_zero, List.set_cons_succ, i64_w, i32_w]
            rfl
           refine pU 18 (some 42) (bm 37 524287) HT_ rfl rfl ?_
           refine pU 19 (some 43) (bm 37 1048575) HT_ rfl rfl ?_
           refine pU 20 (some 44) (bm 37 2097151) HT_ rfl rfl ?_
           refine pU 21 (some 45) (bm 37 4194303) HT_ rfl rfl ?_
           refine pU 22 (some 46) (bm 37 8388607) HT_ rfl rfl ?_
           refine pU 23 (some 47) (bm 37 16777215) HT_ rfl rfl ?_
           refine tU 24 (some 48) (bm 37 33554431) HT_ HW_ rfl rfl hHeld ?_
           refine pU 25 (some 49) (bm 37 67108863) HT_ rfl rfl ?_
           refine pU 26 (some 50) (bm 37 134217727) HT_ rfl rfl ?_
           refine pU 27 (some 51) (bm 37 268435455) HT_ rfl rfl ?_
           refine pU 28 (some 52) (bm 37 536870911) HT_ rfl rfl ?_
           refine pU 29 (some 53) (bm 37 1073741823) HT_ rfl rfl ?_
           refine pU 30 (some 54) (bm 37 2147483647) HT_ rfl rfl ?_
           refine tU 31 (some 55) (bm 37 4294967295) HT_ HW_ rfl rfl hHeld ?_
           refine pU 32 (some 56) (bm 37 8589934591) HT_ rfl rfl ?_
           refine pU 33 (some 57) (bm 37 17179869183) HT_ rfl rfl ?_
           refine pU 34 (some 58) (bm 37 34359738367) HT_ rfl rfl ?_
           refine pU 35 (some 59) (bm 37 68719476735) HT_ rfl rfl ?_
           refine pU 36 (some 60) (bm 37 137438953471) HT_ rfl rfl ?_
           refine done_ (done_of HT_.out (by kernel_rfl)) ?_
           try clear hHeld
           try go_wp2
           go_ret
           exact ⟨zE, zB HB⟩
          ·rw [if_neg c65] at H
           have c65b0 : decide (0 < (((rd_T58 l1 x19_2).f1).length : Int)) = false := decide_eq_false c65
           have c65b1 : decide (0 < ((rd_T58 l1 x19_2).f1).length) = false := decide_eq_false (by omega)
           clear c65
           have H' := Aside0.mk H
           clear H
           have p160 : 0 ≤ (x19_2 : Int) := zD
           have q160 : x19_2 < (l0.length : Int) := zD
           obtain ⟨ad160, e160, hx160_0, hx160_1, hx160_2, hx160_3⟩ := at_T47 HR0.out x19_2 p160 q160
           cases e160
           replace hx160_0 := hL HB hx160_0
           replace hx160_1 := hL HB hx160_1
           replace hx160_2 := hL HB hx160_2
           replace hx160_3 := hL HB hx160_3
           replace p160 := eq_true p160
           replace q160 := eq_true q160
           try go_wp2_with (first | ((with_reducible refine gate_dst (N := 6) rfl ?_); (try (refine gate_guard (by rfl) ?_; dsimp only)); refine box_event ?hg (N := 6) ?hd (cs := #[.int .i64 0, .int .i64 0, .int .i64 0, .int .i64 0]) (t := 47) ?hr ?_; (case hd => rfl); (case hg => rfl); (case hr => first | (go_simp; done) | (go_simp; rfl)); intro gb161 hg w72 hbox hb; have BK161 := Aside0.mk (hbox); have GW161 := gS HB hg; have GE161 := gS HB hg; replace HB := bS HB hb; clear hb hbox hg; have hcz73_0 := bc0 BK161; have hcz73_1 := bc1 BK161; have hcz73_2 := bc2 BK161; have hcz73_3 := bc3 BK161; have hfz73_0 := bf BK161 0; have hfz73_1 := bf BK161 1; have hfz73_2 := bf BK161 2; have hfz73_3 := bf BK161 3))
           have n0_ : Aside0 (((((w72.setCell ⟨gb161, 0, none⟩ (.int .i64 ((rd_T47 l0 x19_2).f0))).setCell ⟨gb161, 1, none⟩ (.int .i64 ((rd_T47 l0 x19_2).f1))).setCell ⟨gb161, 2, none⟩ (.int .i64 ((rd_T47 l0 x19_2).f2))).setCell ⟨gb161, 3, none⟩ (.int .i64 ((rd_T47 l0 x19_2).f3))).heap[gb161]? = some (.cells #[.int .i64 ((rd_T47 l0 x19_2).f0), .int .i64 ((rd_T47 l0 x19_2).f1), .int .i64 ((rd_T47 l0 x19_2).f2), .int .i64 ((rd_T47 l0 x19_2).f3)] 47 (0, 0))) := ⟨by (with_reducible repeat (first | refine blk_drewN ?_ _ | refine blk_drew ?_ | refine blk_alloc ?_ _)); refine blk_put (cs := #[.int .i64 ((rd_T47 l0 x19_2).f0), .int .i64 ((rd_T47 l0 x19_2).f1), .int .i64 ((rd_T47 l0 x19_2).f2), .int .i64 0]) ?_ 3 _ rfl; (with_reducible repeat (first | refine blk_drewN ?_ _ | refine blk_drew ?_ | refine blk_alloc ?_ _)); refine blk_put (cs := #[.int .i64 ((rd_T47 l0 x19_2).f0), .int .i64 ((rd_T47 l0 x19_2).f1), .int .i64 0, .int .i64 0]) ?_ 2 _ rfl; (with_reducible repeat (first | refine blk_drewN ?_ _ | refine blk_drew ?_ | refine blk_alloc ?_ _)); refine blk_put (cs := #[.int .i64 ((rd_T47 l0 x19_2).f0), .int .i64 0, .int .i64 0, .int .i64 0]) ?_ 1 _ rfl; (with_reducible repeat (first | refine blk_drewN ?_ _ | refine blk_drew ?_ | refine blk_alloc ?_ _)); refine blk_put (cs := #[.int .i64 0, .int .i64 0, .int .i64 0, .int .i64 0]) ?_ 0 _ rfl; (with_reducible repeat (first | refine blk_drewN ?_ _ | refine blk_drew ?_ | refine blk_alloc ?_ _)); exact BK161.out⟩
           have n1_ : Aside0 (Below w.heap.size w ((((w72.setCell ⟨gb161, 0, none⟩ (.int .i64 ((rd_T47 l0 x19_2).f0))).setCell ⟨gb161, 1, none⟩ (.int .i64 ((rd_T47 l0 x19_2).f1))).setCell ⟨gb161, 2, none⟩ (.int .i64 ((rd_T47 l0 x19_2).f2))).setCell ⟨gb161, 3, none⟩ (.int .i64 ((rd_T47 l0 x19_2).f3)))) := ⟨zB HB⟩
           (try clear BK161)
           (try clear HB)
           generalize ((((w72.setCell ⟨gb161, 0, none⟩ (.int .i64 ((rd_T47 l0 x19_2).f0))).setCell ⟨gb161, 1, none⟩ (.int .i64 ((rd_T47 l0 x19_2).f1))).setCell ⟨gb161, 2, none⟩ (.int .i64 ((rd_T47 l0 x19_2).f2))).setCell ⟨gb161, 3, none⟩ (.int .i64 ((rd_T47 l0 x19_2).f3))) = w74 at n0_ n1_ ⊢
           have BK161 := n0_
           have HB := n1_
           clear n0_ n1_
           replace BK161 := Aside0.mk (blk_drew BK161.out)
           replace HB := Aside0.mk (below_drew1 HB.out)
           have p169 : 0 ≤ (x19_2 : Int) := zD
           have q169 : x19_2 < (l1.length : Int) := zD
           obtain ⟨ad169, A169_1, c169_1, e169, hx169_0, hx169_1, hl169_1, hi169_1⟩ := at_T58 HR1.out x19_2 p169 q169
           have hw169_1 := hx169_1
           have hw169_0 := hx169_0
           cases e169
           replace hx169_0 := hL HB hx169_0
           replace hx169_1 := hL HB hx169_1
           have HR169_1 := Aside0.mk hi169_1
           have HC169_1 := Aside0.mk hl169_1
           clear hi169_1 hl169_1
           replace p169 := eq_true p169
           replace q169 := eq_true q169
           have p170 : 0 ≤ (x19_2 : Int) := zD
           have q170 : x19_2 < (l1.length : Int) := zD
           obtain ⟨ad170, A170_1, c170_1, e170, hx170_0, hx170_1, hl170_1, hi170_1⟩ := at_T58 HR1.out x19_2 p170 q170
           have hw170_1 := hx170_1
           have hw170_0 := hx170_0
           obtain rfl : ad169 = ad170 := (by injection e170)
           replace hx170_0 := hL HB hx170_0
           replace hx170_1 := hL HB hx170_1
           have HR170_1 := Aside0.mk hi170_1
           have HC170_1 := Aside0.mk hl170_1
           clear hi170_1 hl170_1
           replace p170 := eq_true p170
           replace q170 := eq_true q170
           have ea_ := Option.some.inj (hx169_1.symm.trans hx170_1)
           injection ea_ with ea_ en_ ec_
           subst ea_
           subst ec_
           clear en_
           refine start_ (n := 37) (S := fun w' => w'.cell? (ad169.add ((x19_2).toNat * 2)) = some (.int .i64 ((rd_T58 l1 x19_2).f0)) ∧ w'.cell? ⟨(ad169.add ((x19_2).toNat * 2)).block, (ad169.add ((x19_2).toNat * 2)).off + 1, none⟩ = some (.slice A169_1 ((rd_T58 l1 x19_2).f1).length c169_1) ∧ w'.cell? (ad169.add ((x19_2).toNat * 2)) = some (.int .i64 ((rd_T58 l1 x19_2).f0)) ∧ w'.cell? ⟨(ad169.add ((x19_2).toNat * 2)).block, (ad169.add ((x19_2).toNat * 2)).off + 1, none⟩ = some (.slice A169_1 ((rd_T58 l1 x19_2).f1).length c169_1)) (ds := []) (bm 37 0) (by kernel_rfl) rfl (bm0 _) ⟨(hL HB hw169_0), (hL HB hw169_1), (hL HB hw170_0), (hL HB hw170_1)⟩ (fun hHeld => ?_); refine with_tabW impl_FitsFormat.tab6 impl_FitsFormat.bits6 (fun HT_ HW_ => ?_)
           generalize w74.drew = w75 at BK161 HB HR169_1 HR170_1 hx169_0 hx169_1 hx170_0 hx170_1 hHeld ⊢
           refine pU 0 (some 24) (bm 37 1) HT_ rfl rfl ?_
           refine pU 1 (some 25) (bm 37 3) HT_ rfl rfl ?_
           refine pU 2 (some 26) (bm 37 7) HT_ rfl rfl ?_
           refine one_ (i := 3) (N := some 27) (bm 37 15) rfl rfl (one_of HT_.out (by kernel_rfl)) (by decide) (fun K hK => ?_)
           refine goes_ Try.func42 (by kernel_rfl) rfl #[.slice (some ad160) l0.length c0, .slice (some ad169) l1.length c1, .int .i64 x19_2] (by rfl) rfl rfl zG ?_
           with_reducible refine (impl_IsThere.calls _ _ l0 _ _ l1 x19_2 false _ ?side1 ?side2 ?side3 ?side4 A12.out).mono ?_
           (case side1 => exact cS HR0 HB)
           (case side2 => exact HC0.out)
           (case side3 => exact cS HR1 HB)
           (case side4 => exact HC1.out)
           rintro e w76 ⟨rfl, hb⟩
           refine ⟨_, rfl, ?_⟩
           replace BK161 := kB BK161 hb
           replace HB := bS HB hb
           (try clear hb)
           (try clear hb2)
           (try clear hk)
           (try clear hi)
           refine hK.out _ _ ⟨(hL HB hw169_0), (hL HB hw169_1), (hL HB hw170_0), (hL HB hw170_1)⟩ (fun hHeld => ?_)
           clear hK K
           refine norm_ (a' := ?_) ?_ ?_
           rotate_left
           ·show Act.put _ (some 27) _ = _
            simp only [Act.put, List.setIfInBounds_toArray, List.set_cons_zero, List.set_cons_succ, i64_w, i32_w]
            rfl
           refine pU 4 (some 28) (bm 37 31) HT_ rfl rfl ?_
           refine pV 5 (some 29) (bm 37 63) HT_ rfl rfl ?_
           refine pV 6 (some 30) (bm 37 127) HT_ rfl rfl ?_
           refine pV 7 (some 31) (bm 37 255) HT_ rfl rfl ?_
           refine pV 8 (some 32) (bm 37 511) HT_ rfl rfl ?_
           refine pV 9 (some 33) (bm 37 1023) HT_ rfl rfl ?_
           refine pV 10 (some 34) (bm 37 2047) HT_ rfl rfl ?_
           refine pV 11 (some 35) (bm 37 4095) HT_ rfl rfl ?_
           refine pU 12 (some 36) (bm 37 8191) HT_ rfl rfl ?_
           refine pU 13 (some 37) (bm 37 16383) HT_ rfl rfl ?_
           refine pU 14 (some 38) (bm 37 32767) HT_ rfl rfl ?_
           refine pU 15 (some 39) (bm 37 65535) HT_ rfl rfl ?_
           refine pU 16 (some 40) (bm 37 131071) HT_ rfl rfl ?_
           refine one_ (i := 17) (N := some 41) (bm 37 262143) rfl rfl (one_of HT_.out (by kernel_rfl)) (by decide) (fun K hK => ?_)
           refine goes_ Try.func42 (by kernel_rfl) rfl #[.slice (some ad160) l0.length c0, .slice (some ad169) l1.length c1, .int .i64 x19_2] (by rfl) rfl rfl zG ?_
           with_reducible refine (impl_IsThere.calls _ _ l0 _ _ l1 x19_2 false _ ?side1 ?side2 ?side3 ?side4 A55.out).mono ?_
           (case side1 => exact cS HR0 HB)
           (case side2 => exact HC0.out)
           (case side3 => exact cS HR1 HB)
           (case side4 => exact HC1.out)
           rintro e w77 ⟨rfl, hb⟩
           refine ⟨_, rfl, ?_⟩
           replace BK161 := kB BK161 hb
           replace HB := bS HB hb
           (try clear hb)
           (try clear hb2)
           (try clear hk)
           (try clear hi)
           refine hK.out _ _ ⟨(hL HB hw169_0), (hL HB hw169_1), (hL HB hw170_0), (hL HB hw170_1)⟩ (fun hHeld => ?_)
           clear hK K
           refine norm_ (a' := ?_) ?_ ?_
           rotate_left
           ·show Act.put _ (some 41) _ = _
            simp only [Act.put, List.setIfInBounds_toArray, List.set_cons_zero, List.set_cons_succ, i64_w, i32_w]
            rfl
           refine pU 18 (some 42) (bm 37 524287) HT_ rfl rfl ?_
           refine pU 19 (some 43) (bm 37 1048575) HT_ rfl rfl ?_
           refine pU 20 (some 44) (bm 37 2097151) HT_ rfl rfl ?_
           refine pU 21 (some 45) (bm 37 4194303) HT_ rfl rfl ?_
           refine pU 22 (some 46) (bm 37 8388607) HT_ rfl rfl ?_
           refine pU 23 (some 47) (bm 37 16777215) HT_ rfl rfl ?_
           refine tU 24 (some 48) (bm 37 33554431) HT_ HW_ rfl rfl hHeld ?_
           refine pU 25 (some 49) (bm 37 67108863) HT_ rfl rfl ?_
           refine pU 26 (some 50) (bm 37 134217727) HT_ rfl rfl ?_
           refine pU 27 (some 51) (bm 37 268435455) HT_ rfl rfl ?_
           refine pU 28 (some 52) (bm 37 536870911) HT_ rfl rfl ?_
           refine pU 29 (some 53) (bm 37 1073741823) HT_ rfl rfl ?_
           refine pU 30 (some 54) (bm 37 2147483647) HT_ rfl rfl ?_
           refine tU 31 (some 55) (bm 37 4294967295) HT_ HW_ rfl rfl hHeld ?_
           refine pU 32 (some 56) (bm 37 8589934591) HT_ rfl rfl ?_
           refine pU 33 (some 57) (bm 37 17179869183) HT_ rfl rfl ?_
           refine pU 34 (some 58) (bm 37 34359738367) HT_ rfl rfl ?_
           refine pU 35 (some 59) (bm 37 68719476735) HT_ rfl rfl ?_
           refine pU 36 (some 60) (bm 37 137438953471) HT_ rfl rfl ?_
           refine done_ (done_of HT_.out (by kernel_rfl)) ?_
           try clear hHeld
           try go_wp2
           go_roundg k2
           case measure => have := HJ2.out; have := HK2.out; omega
           case rel => exact ⟨(wrap64 (x19_2 + 1)), zF, H', ⟨by have := HJ2.out; have := HK2.out; omega⟩, ⟨zB HB⟩⟩
         ·rw [if_neg c64] at H
          have c64b0 : (((rd_T58 l1 x19_2).f0) == 0) = false := beq_eq_false_iff_ne.mpr c64
          have c64b1 : (((rd_T58 l1 x19_2).f0) != 0) = true := bne_iff_ne.mpr c64
          obtain rfl := Option.some.inj H
          have p160 : 0 ≤ (x19_2 : Int) := zD
          have q160 : x19_2 < (l0.length : Int) := zD
          obtain ⟨ad160, e160, hx160_0, hx160_1, hx160_2, hx160_3⟩ := at_T47 HR0.out x19_2 p160 q160
          cases e160
          replace hx160_0 := hL HB hx160_0
          replace hx160_1 := hL HB hx160_1
          replace hx160_2 := hL HB hx160_2
          replace hx160_3 := hL HB hx160_3
          replace p160 := eq_true p160
          replace q160 := eq_true q160
          try go_wp2_with (first | ((with_reducible refine gate_dst (N := 6) rfl ?_); (try (refine gate_guard (by rfl) ?_; dsimp only)); refine box_event ?hg (N := 6) ?hd (cs := #[.int .i64 0, .int .i64 0, .int .i64 0, .int .i64 0]) (t := 47) ?hr ?_; (case hd => rfl); (case hg => rfl); (case hr => first | (go_simp; done) | (go_simp; rfl)); intro gb161 hg w78 hbox hb; have BK161 := Aside0.mk (hbox); have GW161 := gS HB hg; have GE161 := gS HB hg; replace HB := bS HB hb; clear hb hbox hg; have hcz79_0 := bc0 BK161; have hcz79_1 := bc1 BK161; have hcz79_2 := bc2 BK161; have hcz79_3 := bc3 BK161; have hfz79_0 := bf BK161 0; have hfz79_1 := bf BK161 1; have hfz79_2 := bf BK161 2; have hfz79_3 := bf BK161 3))
          have n0_ : Aside0 (((((w78.setCell ⟨gb161, 0, none⟩ (.int .i64 ((rd_T47 l0 x19_2).f0))).setCell ⟨gb161, 1, none⟩ (.int .i64 ((rd_T47 l0 x19_2).f1))).setCell ⟨gb161, 2, none⟩ (.int .i64 ((rd_T47 l0 x19_2).f2))).setCell ⟨gb161, 3, none⟩ (.int .i64 ((rd_T47 l0 x19_2).f3))).heap[gb161]? = some (.cells #[.int .i64 ((rd_T47 l0 x19_2).f0), .int .i64 ((rd_T47 l0 x19_2).f1), .int .i64 ((rd_T47 l0 x19_2).f2), .int .i64 ((rd_T47 l0 x19_2).f3)] 47 (0, 0))) := ⟨by (with_reducible repeat (first | refine blk_drewN ?_ _ | refine blk_drew ?_ | refine blk_alloc ?_ _)); refine blk_put (cs := #[.int .i64 ((rd_T47 l0 x19_2).f0), .int .i64 ((rd_T47 l0 x19_2).f1), .int .i64 ((rd_T47 l0 x19_2).f2), .int .i64 0]) ?_ 3 _ rfl; (with_reducible repeat (first | refine blk_drewN ?_ _ | refine blk_drew ?_ | refine blk_alloc ?_ _)); refine blk_put (cs := #[.int .i64 ((rd_T47 l0 x19_2).f0), .int .i64 ((rd_T47 l0 x19_2).f1), .int .i64 0, .int .i64 0]) ?_ 2 _ rfl; (with_reducible repeat (first | refine blk_drewN ?_ _ | refine blk_drew ?_ | refine blk_alloc ?_ _)); refine blk_put (cs := #[.int .i64 ((rd_T47 l0 x19_2).f0), .int .i64 0, .int .i64 0, .int .i64 0]) ?_ 1 _ rfl; (with_reducible repeat (first | refine blk_drewN ?_ _ | refine blk_drew ?_ | refine blk_alloc ?_ _)); refine blk_put (cs := #[.int .i64 0, .int .i64 0, .int .i64 0, .int .i64 0]) ?_ 0 _ rfl; (with_reducible repeat (first | refine blk_drewN ?_ _ | refine blk_drew ?_ | refine blk_alloc ?_ _)); exact BK161.out⟩
          have n1_ : Aside0 (Below w.heap.size w ((((w78.setCell ⟨gb161, 0, none⟩ (.int .i64 ((rd_T47 l0 x19_2).f0))).setCell ⟨gb161, 1, none⟩ (.int .i64 ((rd_T47 l0 x19_2).f1))).setCell ⟨gb161, 2, none⟩ (.int .i64 ((rd_T47 l0 x19_2).f2))).setCell ⟨gb161, 3, none⟩ (.int .i64 ((rd_T47 l0 x19_2).f3)))) := ⟨zB HB⟩
          (try clear BK161)
          (try clear HB)
          generalize ((((w78.setCell ⟨gb161, 0, none⟩ (.int .i64 ((rd_T47 l0 x19_2).f0))).setCell ⟨gb161, 1, none⟩ (.int .i64 ((rd_T47 l0 x19_2).f1))).setCell ⟨gb161, 2, none⟩ (.int .i64 ((rd_T47 l0 x19_2).f2))).setCell ⟨gb161, 3, none⟩ (.int .i64 ((rd_T47 l0 x19_2).f3))) = w80 at n0_ n1_ ⊢
          have BK161 := n0_
          have HB := n1_
          clear n0_ n1_
          replace BK161 := Aside0.mk (blk_drew BK161.out)
          replace HB := Aside0.mk (below_drew1 HB.out)
          have p169 : 0 ≤ (x19_2 : Int) := zD
          have q169 : x19_2 < (l1.length : Int) := zD
          obtain ⟨ad169, A169_1, c169_1, e169, hx169_0, hx169_1, hl169_1, hi169_1⟩ := at_T58 HR1.out x19_2 p169 q169
          have hw169_1 := hx169_1
          have hw169_0 := hx169_0
          cases e169
          replace hx169_0 := hL HB hx169_0
          replace hx169_1 := hL HB hx169_1
          have HR169_1 := Aside0.mk hi169_1
          have HC169_1 := Aside0.mk hl169_1
          clear hi169_1 hl169_1
          replace p169 := eq_true p169
          replace q169 := eq_true q169
          refine start_ (n := 37) (S := fun w' => w'.cell? (ad169.add ((x19_2).toNat * 2)) = some (.int .i64 ((rd_T58 l1 x19_2).f0)) ∧ w'.cell? ⟨(ad169.add ((x19_2).toNat * 2)).block, (ad169.add ((x19_2).toNat * 2)).off + 1, none⟩ = some (.slice A169_1 ((rd_T58 l1 x19_2).f1).length c169_1)) (ds := []) (bm 37 0) (by kernel_rfl) rfl (bm0 _) ⟨(hL HB hw169_0), (hL HB hw169_1)⟩ (fun hHeld => ?_); refine with_tabW impl_FitsFormat.tab6 impl_FitsFormat.bits6 (fun HT_ HW_ => ?_)
          generalize w80.drew = w81 at BK161 HB HR169_1 hx169_0 hx169_1 hHeld ⊢
          refine pU 0 (some 24) (bm 37 1) HT_ rfl rfl ?_
          refine pU 1 (some 25) (bm 37 3) HT_ rfl rfl ?_
          refine pU 2 (some 26) (bm 37 7) HT_ rfl rfl ?_
          refine one_ (i := 3) (N := some 27) (bm 37 15) rfl rfl (one_of HT_.out (by kernel_rfl)) (by decide) (fun K hK => ?_)
          refine goes_ Try.func42 (by kernel_rfl) rfl #[.slice (some ad160) l0.length c0, .slice (some ad169) l1.length c1, .int .i64 x19_2] (by rfl) rfl rfl zG ?_
          with_reducible refine (impl_IsThere.calls _ _ l0 _ _ l1 x19_2 false _ ?side1 ?side2 ?side3 ?side4 A12.out).mono ?_
          (case side1 => exact cS HR0 HB)
          (case side2 => exact HC0.out)
          (case side3 => exact cS HR1 HB)
          (case side4 => exact HC1.out)
          rintro e w82 ⟨rfl, hb⟩
          refine ⟨_, rfl, ?_⟩
          replace BK161 := kB BK161 hb
          replace HB := bS HB hb
          (try clear hb)
          (try clear hb2)
          (try clear hk)
          (try clear hi)
          refine hK.out _ _ ⟨(hL HB hw169_0), (hL HB hw169_1)⟩ (fun hHeld => ?_)
          clear hK K
          refine norm_ (a' := ?_) ?_ ?_
          rotate_left
          ·show Act.put _ (some 27) _ = _
           simp only [Act.put, List.setIfInBounds_toArray, List.set_cons_zero, List.set_cons_succ, i64_w, i32_w]
           rfl
          refine pU 4 (some 28) (bm 37 31) HT_ rfl rfl ?_
          refine pV 5 (some 29) (bm 37 63) HT_ rfl rfl ?_
          refine pV 6 (some 30) (bm 37 127) HT_ rfl rfl ?_
          refine pV 7 (some 31) (bm 37 255) HT_ rfl rfl ?_
          refine pV 8 (some 32) (bm 37 511) HT_ rfl rfl ?_
          refine pV 9 (some 33) (bm 37 1023) HT_ rfl rfl ?_
          refine pV 10 (some 34) (bm 37 2047) HT_ rfl rfl ?_
          refine pV 11 (some 35) (bm 37 4095) HT_ rfl rfl ?_
          refine pU 12 (some 36) (bm 37 8191) HT_ rfl rfl ?_
          refine pU 13 (some 37) (bm 37 16383) HT_ rfl rfl ?_
          refine pU 14 (some 38) (bm 37 32767) HT_ rfl rfl ?_
          refine pU 15 (some 39) (bm 37 65535) HT_ rfl rfl ?_
          refine pU 16 (some 40) (bm 37 131071) HT_ rfl rfl ?_
          refine one_ (i := 17) (N := some 41) (bm 37 262143) rfl rfl (one_of HT_.out (by kernel_rfl)) (by decide) (fun K hK => ?_)
          refine goes_ Try.func42 (by kernel_rfl) rfl #[.slice (some ad160) l0.length c0, .slice (some ad169) l1.length c1, .int .i64 x19_2] (by rfl) rfl rfl zG ?_
          with_reducible refine (impl_IsThere.calls _ _ l0 _ _ l1 x19_2 false _ ?side1 ?side2 ?side3 ?side4 A55.out).mono ?_
          (case side1 => exact cS HR0 HB)
          (case side2 => exact HC0.out)
          (case side3 => exact cS HR1 HB)
          (case side4 => exact HC1.out)
          rintro e w83 ⟨rfl, hb⟩
          refine ⟨_, rfl, ?_⟩
          replace BK161 := kB BK161 hb
          replace HB := bS HB hb
          (try clear hb)
          (try clear hb2)
          (try clear hk)
          (try clear hi)
          refine hK.out _ _ ⟨(hL HB hw169_0), (hL HB hw169_1)⟩ (fun hHeld => ?_)
          clear hK K
          refine norm_ (a' := ?_) ?_ ?_
          rotate_left
          ·show Act.put _ (some 41) _ = _
           simp only [Act.put, List.setIfInBounds_toArray, List.set_cons_zero, List.set_cons_succ, i64_w, i32_w]
           rfl
          refine pU 18 (some 42) (bm 37 524287) HT_ rfl rfl ?_
          refine pU 19 (some 43) (bm 37 1048575) HT_ rfl rfl ?_
          refine pU 20 (some 44) (bm 37 2097151) HT_ rfl rfl ?_
          refine pU 21 (some 45) (bm 37 4194303) HT_ rfl rfl ?_
          refine pU 22 (some 46) (bm 37 8388607) HT_ rfl rfl ?_
          refine pU 23 (some 47) (bm 37 16777215) HT_ rfl rfl ?_
          refine tU 24 (some 48) (bm 37 33554431) HT_ HW_ rfl rfl hHeld ?_
          refine pU 25 (some 49) (bm 37 67108863) HT_ rfl rfl ?_
          refine pU 26 (some 50) (bm 37 134217727) HT_ rfl rfl ?_
          refine pV 27 (some 51) (bm 37 268435455) HT_ rfl rfl ?_
          refine pV 28 (some 52) (bm 37 536870911) HT_ rfl rfl ?_
          refine pV 29 (some 53) (bm 37 1073741823) HT_ rfl rfl ?_
          refine pV 30 (some 54) (bm 37 2147483647) HT_ rfl rfl ?_
          refine pV 31 (some 55) (bm 37 4294967295) HT_ rfl rfl ?_
          refine pV 32 (some 56) (bm 37 8589934591) HT_ rfl rfl ?_
          refine pV 33 (some 57) (bm 37 17179869183) HT_ rfl rfl ?_
          refine pU 34 (some 58) (bm 37 34359738367) HT_ rfl rfl ?_
          refine pU 35 (some 59) (bm 37 68719476735) HT_ rfl rfl ?_
          refine pU 36 (some 60) (bm 37 137438953471) HT_ rfl rfl ?_
          refine done_ (done_of HT_.out (by kernel_rfl)) ?_
          try clear hHeld
          try go_wp2
          go_ret
          exact ⟨zE, zB HB⟩
      ·rw [if_neg c9] at H
       have c9b0 : decide (x19_2 < (l0.length : Int)) = false := decide_eq_false c9
       clear c9
       obtain rfl := Option.some.inj H
       go_wp2
       go_ret
       exact ⟨zE, zB HB⟩

end Go.Proofs.Yticpmgofegaaeaa.PFnDiffers
