-- WRITTEN by pp.py, this session's own wrapper around the print; not trusted: Lean checks it
import Derived.Test.YticpmgofegaaeaaPFnExactSkipsTailx0
import Derived.Test.YticpmgofegaaeaaPFnExactSkipsTailx2
import Derived.Test.YticpmgofegaaeaaPFnExactSkipsTailx3
namespace Go.Proofs.Yticpmgofegaaeaa.PFnExactSkipsTail
open Go.RowKit Go.Proofs.Yticpmgofegaaeaa.Hw Go.Proofs.YticpmgofegaaeaaW.PrintWords Go.Proofs.YticpmgofegaaeaaW.PrintLast Go.Proofs.YticpmgofegaaeaaW.PrintMore
attribute [local go_sem] max2_int min2_int max_two min_two max_three min_three max_four min_four   -- for this text's walks alone
set_option linter.unusedVariables false
set_option linter.unusedSimpArgs false
set_option linter.unusedSectionVars false

/-! ### spec_FitsFormat: function 59 -/
mutual
def spec_FitsFormat.j0 : Nat → List (S47) → List (S58) → Bool → Option (Bool)
 | 0, _, _, _ => none
 | k + 1, x0, x1, x15 => if x15 = true then (some false) else (spec_FitsFormat.l0 k x0 x1 0)
def spec_FitsFormat.l0 : Nat → List (S47) → List (S58) → Int → Option (Bool)
 | 0, _, _, _ => none
 | k + 1, x0, x1, x5 => if x5 < (x0.length : Int) then ((spec_IsThere.f x0 x1 x5).bind fun t192 => (if t192 = true then (if 0 ≤ x5 then (if x5 < (x1.length : Int) then ((spec_FitsField.f k ((rd_T47 x0 x5).f0) ((rd_T47 x0 x5).f1) ((rd_T47 x0 x5).f2) ((rd_T47 x0 x5).f3) ((rd_T58 x1 x5).f0) ((rd_T58 x1 x5).f1)).bind fun t195 => (if t195 = true then ((spec_IsThere.f x0 x1 x5).bind fun t196 => (if t196 = true then (spec_FitsFormat.l0 k x0 x1 (wrap64 (x5 + 1))) else (if ((rd_T58 x1 x5).f0) = 0 then (if (((rd_T58 x1 x5).f1).length : Int) > 0 then (some false) else (spec_FitsFormat.l0 k x0 x1 (wrap64 (x5 + 1)))) else (some false)))) else (some false))) else (none)) else (none)) else ((spec_IsThere.f x0 x1 x5).bind fun t199 => (if t199 = true then (spec_FitsFormat.l0 k x0 x1 (wrap64 (x5 + 1))) else (if 0 ≤ x5 then (if x5 < (x1.length : Int) then (if ((rd_T58 x1 x5).f0) = 0 then (if (((rd_T58 x1 x5).f1).length : Int) > 0 then (some false) else (spec_FitsFormat.l0 k x0 x1 (wrap64 (x5 + 1)))) else (some false)) else (none)) else (none)))))) else (some true)
end
def spec_FitsFormat.f (k : Nat) (l0 : List (S47)) (l1 : List (S58)) : Option (Bool) := (spec_IsFormat.f k l0).bind fun t191 => (if t191 = true then (spec_FitsFormat.j0 k l0 l1 ((l1.length : Int) != (l0.length : Int))) else (spec_FitsFormat.j0 k l0 l1 true))
theorem spec_FitsFormat.mono_l : ∀ k, (∀ y0 y1 y2, LeO (spec_FitsFormat.j0 k y0 y1 y2) (spec_FitsFormat.j0 (k + 1) y0 y1 y2)) ∧ (∀ y0 y1 y2, LeO (spec_FitsFormat.l0 k y0 y1 y2) (spec_FitsFormat.l0 (k + 1) y0 y1 y2))
 | 0 => ⟨fun _ _ _ r h => by simp [spec_FitsFormat.j0] at h, fun _ _ _ r h => by simp [spec_FitsFormat.l0] at h⟩
 | k + 1 => by
  obtain ⟨ih0, ih1⟩ := spec_FitsFormat.mono_l k
  refine ⟨?_, ?_⟩
  ·intro y0 y1 y2
   unfold spec_FitsFormat.j0
   repeat' first
   | (with_reducible exact ih0 _ _ _)
   | (with_reducible exact ih1 _ _ _)
   | (with_reducible exact spec_FitsField.mono _ _ _ _ _ _ _)
   | (with_reducible exact spec_IsFormat.mono _ _)
   | (with_reducible exact LeO.refl _)
   | (with_reducible exact LeO.none _)
   | (with_reducible refine LeO.ite ?_ ?_)
   | (with_reducible refine LeO.bind ?_ (fun _ => ?_))
   | exact ih0 _ _ _
   | exact ih1 _ _ _
   | exact spec_FitsField.mono _ _ _ _ _ _ _
   | exact spec_IsFormat.mono _ _
   | exact LeO.none _
   | refine LeO.ite ?_ ?_
   | refine LeO.bind ?_ (fun _ => ?_)
  ·intro y0 y1 y2
   unfold spec_FitsFormat.l0
   repeat' first
   | (with_reducible exact ih0 _ _ _)
   | (with_reducible exact ih1 _ _ _)
   | (with_reducible exact spec_FitsField.mono _ _ _ _ _ _ _)
   | (with_reducible exact spec_IsFormat.mono _ _)
   | (with_reducible exact LeO.refl _)
   | (with_reducible exact LeO.none _)
   | (with_reducible refine LeO.ite ?_ ?_)
   | (with_reducible refine LeO.bind ?_ (fun _ => ?_))
   | exact ih0 _ _ _
   | exact ih1 _ _ _
   | exact spec_FitsField.mono _ _ _ _ _ _ _
   | exact spec_IsFormat.mono _ _
   | exact LeO.none _
   | refine LeO.ite ?_ ?_
   | refine LeO.bind ?_ (fun _ => ?_)
theorem spec_FitsFormat.mono : ∀ a0 a1 k, LeO (spec_FitsFormat.f k a0 a1) (spec_FitsFormat.f (k + 1) a0 a1) := by
 intro a0 a1 k
 obtain ⟨ih0, ih1⟩ := spec_FitsFormat.mono_l k
 unfold spec_FitsFormat.f
 repeat' first
   | (with_reducible exact ih0 _ _ _)
   | (with_reducible exact ih1 _ _ _)
   | (with_reducible exact spec_FitsField.mono _ _ _ _ _ _ _)
   | (with_reducible exact spec_IsFormat.mono _ _)
   | (with_reducible exact LeO.refl _)
   | (with_reducible exact LeO.none _)
   | (with_reducible refine LeO.ite ?_ ?_)
   | (with_reducible refine LeO.bind ?_ (fun _ => ?_))
   | exact ih0 _ _ _
   | exact ih1 _ _ _
   | exact spec_FitsField.mono _ _ _ _ _ _ _
   | exact spec_IsFormat.mono _ _
   | exact LeO.none _
   | refine LeO.ite ?_ ?_
   | refine LeO.bind ?_ (fun _ => ?_)
def spec_FitsFormat.T6 : Bool × List (List Nat × List Nat) := (true, [([], []), ([], []), ([], []), ([0, 1, 2], [0, 1, 2]), ([3, 3], [3]), ([4], [4]), ([4], [4]), ([5, 6, 4], [4, 5, 6]), ([7, 4], [4, 7]), ([4], [4]), ([4], [4]), ([9, 10, 4], [4, 9, 10]), ([11, 4], [4, 11]), ([8, 12, 4, 4], [4, 8, 12]), ([13, 4], [4, 13]), ([4, 14], [4, 14]), ([15, 13], [15]), ([16], [16]), ([16], [16]), ([16], [16]), ([17, 18, 19, 16, 16], [16, 17, 18, 19]), ([20, 16], [16, 20]), ([21, 20, 16], [16, 21]), ([22], [22]), ([22], [22]), ([23, 24, 22], [22, 23, 24]), ([25, 22], [22, 25]), ([26, 22], [22, 26]), ([27, 22], [22, 27]), ([28, 22, 22], [22, 28]), ([29], [29]), ([29], [29]), ([30, 31, 29], [29, 30, 31]), ([32, 29], [29, 32]), ([33, 29], [29, 33]), ([34, 29], [29, 34]), ([35, 29], [29, 35]), ([29, 36, 22], [22, 29, 36]), ([22, 37, 16], [16, 22, 37]), ([16, 38], [16, 38])])
def spec_FitsFormat.B6 : List Nat := [0, 0, 0, 7, 15, 31, 31, 127, 255, 31, 31, 1567, 3615, 8191, 16383, 32767, 65535, 131071, 131071, 131071, 1048575, 2097151, 4194303, 8388607, 8388607, 33554431, 67108863, 134217727, 268435455, 536870911, 1073741823, 1073741823, 4294967295, 8589934591, 17179869183, 34359738367, 68719476735, 137438953471, 274877906943, 549755813887]
theorem spec_FitsFormat.tab6 : rtab .any (opsOf Try.f59 6) = spec_FitsFormat.T6 := by kernel_rfl
theorem spec_FitsFormat.bits6 : waitsOk spec_FitsFormat.T6.2 spec_FitsFormat.B6 = true := by kernel_rfl
set_option maxHeartbeats 8000000 in
set_option maxRecDepth 100000 in
theorem spec_FitsFormat.calls (k : Nat) (A0 : Option Addr) (c0 : Nat) (l0 : List (S47)) (A1 : Option Addr) (c1 : Nat) (l1 : List (S58)) (r : Bool) (w : World) (hr0 : Kd.C k47 w A0 l0.length l0) (hc0 : l0.length ≤ c0) (hr1 : Kd.C k58 w A1 l1.length l1) (hc1 : l1.length ≤ c1) (h : spec_FitsFormat.f k l0 l1 = some r) :
  Calls Try.prog 59 #[.slice A0 l0.length c0, .slice A1 l1.length c1] w fun e w' => e = .returned (.bool r) ∧ Below w.heap.size w w' := by
 have hu47 := Try.underlying47
 have hu58 := Try.underlying58
 have HR0 := Aside0.mk hr0
 have HC0 := Aside0.mk hc0
 clear hr0 hc0
 have HR1 := Aside0.mk hr1
 have HC1 := Aside0.mk hc1
 clear hr1 hc1
 have HB := Aside0.mk (Below.refl w.heap.size w)
 have H : ((spec_IsFormat.f k l0).bind fun t191 => (if t191 = true then (spec_FitsFormat.j0 k l0 l1 ((l1.length : Int) != (l0.length : Int))) else (spec_FitsFormat.j0 k l0 l1 true))) = some r := h
 clear h
 have HC3 := Aside0.mk H
 clear H
 go_enter Try.func59, Try.ntmps59
 go_upto_region 1 with (fail)
 go_cut [15] (fun v15 wc => ∃ (kq : Nat) (x15_2 : Bool), v15 = .bool x15_2 ∧ Aside0 (spec_FitsFormat.j0 kq l0 l1 x15_2 = some r) ∧ Aside0 (kq ≤ k) ∧ Aside0 (Below w.heap.size w wc))
 case first =>
  have H := HC3.out
  clear HC3
  obtain ⟨t191, A4, H⟩ := bindS H
  by_cases c5 : t191 = true
  ·subst c5
   have H1 : (spec_FitsFormat.j0 k l0 l1 ((l1.length : Int) != (l0.length : Int))) = some r := by rw [if_pos rfl] at H; exact H
   clear H
   have H := H1
   clear H1
   have H' := Aside0.mk H
   clear H
   go_wp2_with (first | ((with_reducible refine gate_callee (f := 31) rfl ?_); refine goesL_ (some 7) rfl rfl Try.func31 (by kernel_rfl) rfl #[.slice A0 l0.length c0] rfl zG ?_; (with_reducible refine (spec_IsFormat.calls k _ _ l0 true _ ?side1 ?side2 A4.out).mono ?_); (case side1 => exact cS HR0 HB); (case side2 => exact HC0.out); rintro e w6 ⟨rfl, hb⟩; refine ⟨_, rfl, ?_⟩; replace HB := bS HB hb; (try clear hb)))
   go_meet
   case rel => exact ⟨_, (((l1.length : Int) != (l0.length : Int))), zF, H', ⟨by first | omega | exact Nat.le_refl _⟩, ⟨zB HB⟩⟩
  ·replace c5 := Bool.eq_false_iff.mpr c5
   subst c5
   have H1 : (spec_FitsFormat.j0 k l0 l1 true) = some r := by rw [if_neg (show ¬ (false = true) by decide)] at H; exact H
   clear H
   have H := H1
   clear H1
   have H' := Aside0.mk H
   clear H
   go_wp2_with (first | ((with_reducible refine gate_callee (f := 31) rfl ?_); refine goesL_ (some 7) rfl rfl Try.func31 (by kernel_rfl) rfl #[.slice A0 l0.length c0] rfl zG ?_; (with_reducible refine (spec_IsFormat.calls k _ _ l0 false _ ?side1 ?side2 A4.out).mono ?_); (case side1 => exact cS HR0 HB); (case side2 => exact HC0.out); rintro e w7 ⟨rfl, hb⟩; refine ⟨_, rfl, ?_⟩; replace HB := bS HB hb; (try clear hb)))
   go_meet
   case rel => exact ⟨_, (true), zF, H', ⟨by first | omega | exact Nat.le_refl _⟩, ⟨zB HB⟩⟩
 case rest =>
  clear HC3
  try clear c1
  try clear p2
  try clear c3
  try clear c5
  obtain ⟨kq, x15_2, rfl, HA, HJ2, HB⟩ := hcut
  cases kq with
  | zero => exact absurd HA.out (by simp [spec_FitsFormat.j0])
  | succ kj2 =>
   have H := HA.out
   clear HA
   simp only [spec_FitsFormat.j0] at H
   by_cases c8 : x15_2 = true
   ·subst c8
    have H1 : (some false) = some r := by rw [if_pos rfl] at H; exact H
    clear H
    have H := H1
    clear H1
    obtain rfl := Option.some.inj H
    go_wp2
    go_ret
    exact ⟨zE, zB HB⟩
   ·replace c8 := Bool.eq_false_iff.mpr c8
    subst c8
    have H1 : (spec_FitsFormat.l0 kj2 l0 l1 0) = some r := by rw [if_neg (show ¬ (false = true) by decide)] at H; exact H
    clear H
    have H := H1
    clear H1
    have H' := Aside0.mk H
    clear H
    go_wp2
    go_loopg [5] kj2 (fun kq v5 w' => ∃ (x5_2 : Int), v5 = .int .i64 x5_2 ∧ Aside0 (spec_FitsFormat.l0 kq l0 l1 x5_2 = some r) ∧ Aside0 (kq ≤ kj2) ∧ Aside0 (Below w.heap.size w w'))
    case atStart => exact ⟨(0), zF, H', ⟨Nat.le_refl _⟩, ⟨zB HB⟩⟩
    case round =>
     clear H'
     try clear c1
     try clear p2
     try clear c3
     try clear c5
     try clear c8
     try clear p2
     obtain ⟨x5_2, rfl, HA, HK2, HB⟩ := hrel
     cases gk with
     | zero => exact absurd HA.out (by simp [spec_FitsFormat.l0])
     | succ k2 =>
      have H := HA.out
      clear HA
      simp only [spec_FitsFormat.l0] at H
      by_cases c9 : x5_2 < (l0.length : Int)
      ·rw [if_pos c9] at H
       have c9b0 : decide (x5_2 < (l0.length : Int)) = true := decide_eq_true c9
       clear c9
       obtain ⟨t192, A10, H⟩ := bindS H
       by_cases c11 : t192 = true
       ·subst c11
        have H1 : (if 0 ≤ x5_2 then (if x5_2 < (l1.length : Int) then ((spec_FitsField.f k2 ((rd_T47 l0 x5_2).f0) ((rd_T47 l0 x5_2).f1) ((rd_T47 l0 x5_2).f2) ((rd_T47 l0 x5_2).f3) ((rd_T58 l1 x5_2).f0) ((rd_T58 l1 x5_2).f1)).bind fun t195 => (if t195 = true then ((spec_IsThere.f l0 l1 x5_2).bind fun t196 => (if t196 = true then (spec_FitsFormat.l0 k2 l0 l1 (wrap64 (x5_2 + 1))) else (if ((rd_T58 l1 x5_2).f0) = 0 then (if (((rd_T58 l1 x5_2).f1).length : Int) > 0 then (some false) else (spec_FitsFormat.l0 k2 l0 l1 (wrap64 (x5_2 + 1)))) else (some false)))) else (some false))) else (none)) else (none)) = some r := by rw [if_pos rfl] at H; exact H
        clear H
        have H := H1
        clear H1
        obtain ⟨c12, H⟩ := ifS H
        have c12b0 : decide (0 ≤ x5_2) = true := decide_eq_true c12
        clear c12
        obtain ⟨c13, H⟩ := ifS H
        have c13b0 : decide (x5_2 < (l1.length : Int)) = true := decide_eq_true c13
        clear c13
        obtain ⟨t195, A14, H⟩ := bindS H
        by_cases c15 : t195 = true
        ·subst c15
         have H1 : ((spec_IsThere.f l0 l1 x5_2).bind fun t196 => (if t196 = true then (spec_FitsFormat.l0 k2 l0 l1 (wrap64 (x5_2 + 1))) else (if ((rd_T58 l1 x5_2).f0) = 0 then (if (((rd_T58 l1 x5_2).f1).length : Int) > 0 then (some false) else (spec_FitsFormat.l0 k2 l0 l1 (wrap64 (x5_2 + 1)))) else (some false)))) = some r := by rw [if_pos rfl] at H; exact H
         clear H
         have H := H1
         clear H1
         obtain ⟨t196, A16, H⟩ := bindS H
         by_cases c17 : t196 = true
         ·subst c17
          have H1 : (spec_FitsFormat.l0 k2 l0 l1 (wrap64 (x5_2 + 1))) = some r := by rw [if_pos rfl] at H; exact H
          clear H
          have H := H1
          clear H1
          have H' := Aside0.mk H
          clear H
          try go_wp2
          replace HB := Aside0.mk (below_drew1 HB.out)
          have p193 : 0 ≤ (x5_2 : Int) := zD
          have q193 : x5_2 < (l0.length : Int) := zD
          obtain ⟨ad193, e193, hx193_0, hx193_1, hx193_2, hx193_3⟩ := at_T47 HR0.out x5_2 p193 q193
          have hw193_3 := hx193_3
          have hw193_2 := hx193_2
          have hw193_1 := hx193_1
          have hw193_0 := hx193_0
          cases e193
          replace hx193_0 := hL HB hx193_0
          replace hx193_1 := hL HB hx193_1
          replace hx193_2 := hL HB hx193_2
          replace hx193_3 := hL HB hx193_3
          replace p193 := eq_true p193
          replace q193 := eq_true q193
          have p194 : 0 ≤ (x5_2 : Int) := zD
          have q194 : x5_2 < (l1.length : Int) := zD
          obtain ⟨ad194, A194_1, c194_1, e194, hx194_0, hx194_1, hl194_1, hi194_1⟩ := at_T58 HR1.out x5_2 p194 q194
          have hw194_1 := hx194_1
          have hw194_0 := hx194_0
          cases e194
          replace hx194_0 := hL HB hx194_0
          replace hx194_1 := hL HB hx194_1
          have HR194_1 := Aside0.mk hi194_1
          have HC194_1 := Aside0.mk hl194_1
          clear hi194_1 hl194_1
          replace p194 := eq_true p194
          replace q194 := eq_true q194
          refine start_ (n := 40) (S := fun w' => w'.cell? (ad193.add ((x5_2).toNat * 4)) = some (.int .i64 ((rd_T47 l0 x5_2).f0)) ∧ w'.cell? ⟨(ad193.add ((x5_2).toNat * 4)).block, (ad193.add ((x5_2).toNat * 4)).off + 1, none⟩ = some (.int .i64 ((rd_T47 l0 x5_2).f1)) ∧ w'.cell? ⟨(ad193.add ((x5_2).toNat * 4)).block, (ad193.add ((x5_2).toNat * 4)).off + 2, none⟩ = some (.int .i64 ((rd_T47 l0 x5_2).f2)) ∧ w'.cell? ⟨(ad193.add ((x5_2).toNat * 4)).block, (ad193.add ((x5_2).toNat * 4)).off + 3, none⟩ = some (.int .i64 ((rd_T47 l0 x5_2).f3)) ∧ w'.cell? (ad194.add ((x5_2).toNat * 2)) = some (.int .i64 ((rd_T58 l1 x5_2).f0)) ∧ w'.cell? ⟨(ad194.add ((x5_2).toNat * 2)).block, (ad194.add ((x5_2).toNat * 2)).off + 1, none⟩ = some (.slice A194_1 ((rd_T58 l1 x5_2).f1).length c194_1)) (ds := []) (bm 40 0) (by kernel_rfl) rfl (bm0 _) ⟨(hL HB hw193_0), (hL HB hw193_1), (hL HB hw193_2), (hL HB hw193_3), (hL HB hw194_0), (hL HB hw194_1)⟩ (fun hHeld => ?_); refine with_tabW spec_FitsFormat.tab6 spec_FitsFormat.bits6 (fun HT_ HW_ => ?_)
          generalize wr.drew = w18 at HB HR194_1 hx193_0 hx193_1 hx193_2 hx193_3 hx194_0 hx194_1 hHeld ⊢
          refine pU 0 (some 22) (bm 40 1) HT_ rfl rfl ?_
          refine pU 1 (some 23) (bm 40 3) HT_ rfl rfl ?_
          refine pU 2 (some 24) (bm 40 7) HT_ rfl rfl ?_
          refine one_ (i := 3) (N := some 25) (bm 40 15) rfl rfl (one_of HT_.out (by kernel_rfl)) (by decide) (fun K hK => ?_)
          refine goes_ Try.func43 (by kernel_rfl) rfl #[.slice (some ad193) l0.length c0, .slice (some ad194) l1.length c1, .int .i64 x5_2] (by rfl) rfl rfl zG ?_
          with_reducible refine (spec_IsThere.calls _ _ l0 _ _ l1 x5_2 true _ ?side1 ?side2 ?side3 ?side4 A10.out).mono ?_
          (case side1 => exact cS HR0 HB)
          (case side2 => exact HC0.out)
          (case side3 => exact cS HR1 HB)
          (case side4 => exact HC1.out)
          rintro e w19 ⟨rfl, hb⟩
          refine ⟨_, rfl, ?_⟩
          replace HB := bS HB hb
          (try clear hb)
          (try clear hb2)
          (try clear hk)
          (try clear hi)
          refine hK.out _ _ ⟨(hL HB hw193_0), (hL HB hw193_1), (hL HB hw193_2), (hL HB hw193_3), (hL HB hw194_0), (hL HB hw194_1)⟩ (fun hHeld => ?_)
          clear hK K
          refine norm_ (a' := ?_) ?_ ?_
          rotate_left
          ·show Act.put _ (some 25) _ = _
           simp only [Act.put, List.setIfInBounds_toArray, List.set_cons_zero, List.set_cons_succ, i64_w, i32_w]
           rfl
          refine pU 4 (some 26) (bm 40 31) HT_ rfl rfl ?_
          refine pU 5 (some 27) (bm 40 63) HT_ rfl rfl ?_
          refine pU 6 (some 28) (bm 40 127) HT_ rfl rfl ?_
          refine pU 7 (some 29) (bm 40 255) HT_ rfl rfl ?_
          refine pU 9 (some 31) (bm 40 767) HT_ rfl rfl ?_
          refine pU 10 (some 32) (bm 40 1791) HT_ rfl rfl ?_
          refine pU 11 (some 33) (bm 40 3839) HT_ rfl rfl ?_
          refine tU 8 (some 30) (bm 40 4095) HT_ HW_ rfl rfl hHeld ?_
          refine tU 12 (some 34) (bm 40 8191) HT_ HW_ rfl rfl hHeld ?_
          refine one_ (i := 13) (N := some 35) (bm 40 16383) rfl rfl (one_of HT_.out (by kernel_rfl)) (by decide) (fun K hK => ?_)
          refine goes_ Try.func58 (by kernel_rfl) rfl #[.agg #[.int .i64 ((rd_T47 l0 x5_2).f0), .int .i64 ((rd_T47 l0 x5_2).f1), .int .i64 ((rd_T47 l0 x5_2).f2), .int .i64 ((rd_T47 l0 x5_2).f3)], .agg #[.int .i64 ((rd_T58 l1 x5_2).f0), .slice A194_1 ((rd_T58 l1 x5_2).f1).length c194_1]] (by rfl) rfl rfl zG ?_
          with_reducible refine (spec_FitsField.calls k2 ((rd_T47 l0 x5_2).f0) ((rd_T47 l0 x5_2).f1) ((rd_T47 l0 x5_2).f2) ((rd_T47 l0 x5_2).f3) ((rd_T58 l1 x5_2).f0) _ _ ((rd_T58 l1 x5_2).f1) true _ ?side1 ?side2 A14.out).mono ?_
          (case side1 => exact cS HR194_1 HB)
          (case side2 => exact HC194_1.out)
          rintro e w20 ⟨rfl, hb⟩
          refine ⟨_, rfl, ?_⟩
          replace HB := bS HB hb
          (try clear hb)
          (try clear hb2)
          (try clear hk)
          (try clear hi)
          refine hK.out _ _ ⟨(hL HB hw193_0), (hL HB hw193_1), (hL HB hw193_2), (hL HB hw193_3), (hL HB hw194_0), (hL HB hw194_1)⟩ (fun hHeld => ?_)
          clear hK K
          refine norm_ (a' := ?_) ?_ ?_
          rotate_left
          ·show Act.put _ (some 35) _ = _
           simp only [Act.put, List.setIfInBounds_toArray, List.set_cons_zero, List.set_cons_succ, i64_w, i32_w]
           rfl
          refine pU 14 (some 36) (bm 40 32767) HT_ rfl rfl ?_
          refine pU 15 (some 37) (bm 40 65535) HT_ rfl rfl ?_
          refine pU 16 (some 38) (bm 40 131071) HT_ rfl rfl ?_
          refine pU 17 (some 39) (bm 40 262143) HT_ rfl rfl ?_
          refine pU 18 (some 40) (bm 40 524287) HT_ rfl rfl ?_
          refine pU 19 (some 41) (bm 40 1048575) HT_ rfl rfl ?_
          refine one_ (i := 20) (N := some 42) (bm 40 2097151) rfl rfl (one_of HT_.out (by kernel_rfl)) (by decide) (fun K hK => ?_)
          refine goes_ Try.func43 (by kernel_rfl) rfl #[.slice (some ad193) l0.length c0, .slice (some ad194) l1.length c1, .int .i64 x5_2] (by rfl) rfl rfl zG ?_
          with_reducible refine (spec_IsThere.calls _ _ l0 _ _ l1 x5_2 true _ ?side1 ?side2 ?side3 ?side4 A16.out).mono ?_
          (case side1 => exact cS HR0 HB)
          (case side2 => exact HC0.out)
          (case side3 => exact cS HR1 HB)
          (case side4 => exact HC1.out)
          rintro e w21 ⟨rfl, hb⟩
          refine ⟨_, rfl, ?_⟩
          replace HB := bS HB hb
          (try clear hb)
          (try clear hb2)
          (try clear hk)
          (try clear hi)
          refine hK.out _ _ ⟨(hL HB hw193_0), (hL HB hw193_1), (hL HB hw193_2), (hL HB hw193_3), (hL HB hw194_0), (hL HB hw194_1)⟩ (fun hHeld => ?_)
          clear hK K
          refine norm_ (a' := ?_) ?_ ?_
          rotate_left
          ·show Act.put _ (some 42) _ = _
           simp only [Act.put, List.setIfInBounds_toArray, List.set_cons_zero, List.set_cons_succ, i64_w, i32_w]
           rfl
          refine pU 21 (some 43) (bm 40 4194303) HT_ rfl rfl ?_
          refine pU 22 (some 44) (bm 40 8388607) HT_ rfl rfl ?_
          refine pV 23 (some 45) (bm 40 16777215) HT_ rfl rfl ?_
          refine pV 24 (some 46) (bm 40 33554431) HT_ rfl rfl ?_
          refine pV 25 (some 47) (bm 40 67108863) HT_ rfl rfl ?_
          refine pV 26 (some 48) (bm 40 134217727) HT_ rfl rfl ?_
          refine pV 27 (some 49) (bm 40 268435455) HT_ rfl rfl ?_
          refine pV 28 (some 50) (bm 40 536870911) HT_ rfl rfl ?_
          refine pV 29 (some 51) (bm 40 1073741823) HT_ rfl rfl ?_
          refine pV 30 (some 52) (bm 40 2147483647) HT_ rfl rfl ?_
          refine pV 31 (some 53) (bm 40 4294967295) HT_ rfl rfl ?_
          refine pV 32 (some 54) (bm 40 8589934591) HT_ rfl rfl ?_
          refine pV 33 (some 55) (bm 40 17179869183) HT_ rfl rfl ?_
          refine pV 34 (some 56) (bm 40 34359738367) HT_ rfl rfl ?_
          refine pV 35 (some 57) (bm 40 68719476735) HT_ rfl rfl ?_
          refine pV 36 (some 58) (bm 40 137438953471) HT_ rfl rfl ?_
          refine pV 37 (some 59) (bm 40 274877906943) HT_ rfl rfl ?_
          refine pU 38 (some 60) (bm 40 549755813887) HT_ rfl rfl ?_
          refine pU 39 (some 61) (bm 40 1099511627775) HT_ rfl rfl ?_
          refine done_ (done_of HT_.out (by kernel_rfl)) ?_
          try clear hHeld
          try go_wp2
          go_roundg k2
          case measure => have := HJ2.out; have := HK2.out; omega
          case rel => exact ⟨(wrap64 (x5_2 + 1)), zF, H', ⟨by have := HJ2.out; have := HK2.out; omega⟩, ⟨zB HB⟩⟩
         ·replace c17 := Bool.eq_false_iff.mpr c17
          subst c17
          have H1 : (if ((rd_T58 l1 x5_2).f0) = 0 then (if (((rd_T58 l1 x5_2).f1).length : Int) > 0 then (some false) else (spec_FitsFormat.l0 k2 l0 l1 (wrap64 (x5_2 + 1)))) else (some false)) = some r := by rw [if_neg (show ¬ (false = true) by decide)] at H; exact H
          clear H
          have H := H1
          clear H1
          by_cases c22 : ((rd_T58 l1 x5_2).f0) = 0
          ·rw [if_pos c22] at H
           have c22b0 : (((rd_T58 l1 x5_2).f0) == 0) = true := beq_iff_eq.mpr c22
           have c22b1 : (((rd_T58 l1 x5_2).f0) != 0) = false := bne_eq_false_iff_eq.mpr c22
           clear c22
           by_cases c23 : (((rd_T58 l1 x5_2).f1).length : Int) > 0
           ·rw [if_pos c23] at H
            have c23b0 : decide (0 < (((rd_T58 l1 x5_2).f1).length : Int)) = true := decide_eq_true c23
            have c23b1 : decide (0 < ((rd_T58 l1 x5_2).f1).length) = true := decide_eq_true (by omega)
            clear c23
            obtain rfl := Option.some.inj H
            try go_wp2
            replace HB := Aside0.mk (below_drew1 HB.out)
            have p193 : 0 ≤ (x5_2 : Int) := zD
            have q193 : x5_2 < (l0.length : Int) := zD
            obtain ⟨ad193, e193, hx193_0, hx193_1, hx193_2, hx193_3⟩ := at_T47 HR0.out x5_2 p193 q193
            have hw193_3 := hx193_3
            have hw193_2 := hx193_2
            have hw193_1 := hx193_1
            have hw193_0 := hx193_0
            cases e193
            replace hx193_0 := hL HB hx193_0
            replace hx193_1 := hL HB hx193_1
            replace hx193_2 := hL HB hx193_2
            replace hx193_3 := hL HB hx193_3
            replace p193 := eq_true p193
            replace q193 := eq_true q193
            have p194 : 0 ≤ (x5_2 : Int) := zD
            have q194 : x5_2 < (l1.length : Int) := zD
            obtain ⟨ad194, A194_1, c194_1, e194, hx194_0, hx194_1, hl194_1, hi194_1⟩ := at_T58 HR1.out x5_2 p194 q194
            have hw194_1 := hx194_1
            have hw194_0 := hx194_0
            cases e194
            replace hx194_0 := hL HB hx194_0
            replace hx194_1 := hL HB hx194_1
            have HR194_1 := Aside0.mk hi194_1
            have HC194_1 := Aside0.mk hl194_1
            clear hi194_1 hl194_1
            replace p194 := eq_true p194
            replace q194 := eq_true q194
            have p197 : 0 ≤ (x5_2 : Int) := zD
            have q197 : x5_2 < (l1.length : Int) := zD
            obtain ⟨ad197, A197_1, c197_1, e197, hx197_0, hx197_1, hl197_1, hi197_1⟩ := at_T58 HR1.out x5_2 p197 q197
            have hw197_1 := hx197_1
            have hw197_0 := hx197_0
            obtain rfl : ad194 = ad197 := (by injection e197)
            replace hx197_0 := hL HB hx197_0
            replace hx197_1 := hL HB hx197_1
            have HR197_1 := Aside0.mk hi197_1
            have HC197_1 := Aside0.mk hl197_1
            clear hi197_1 hl197_1
            replace p197 := eq_true p197
            replace q197 := eq_true q197
            have p198 : 0 ≤ (x5_2 : Int) := zD
            have q198 : x5_2 < (l1.length : Int) := zD
            obtain ⟨ad198, A198_1, c198_1, e198, hx198_0, hx198_1, hl198_1, hi198_1⟩ := at_T58 HR1.out x5_2 p198 q198
            have hw198_1 := hx198_1
            have hw198_0 := hx198_0
            obtain rfl : ad194 = ad198 := (by injection e198)
            replace hx198_0 := hL HB hx198_0
            replace hx198_1 := hL HB hx198_1
            have HR198_1 := Aside0.mk hi198_1
            have HC198_1 := Aside0.mk hl198_1
            clear hi198_1 hl198_1
            replace p198 := eq_true p198
            replace q198 := eq_true q198
            have ea_ := Option.some.inj (hx197_1.symm.trans hx198_1)
            injection ea_ with ea_ en_ ec_
            subst ea_
            subst ec_
            clear en_
            refine start_ (n := 40) (S := fun w' => w'.cell? (ad193.add ((x5_2).toNat * 4)) = some (.int .i64 ((rd_T47 l0 x5_2).f0)) ∧ w'.cell? ⟨(ad193.add ((x5_2).toNat * 4)).block, (ad193.add ((x5_2).toNat * 4)).off + 1, none⟩ = some (.int .i64 ((rd_T47 l0 x5_2).f1)) ∧ w'.cell? ⟨(ad193.add ((x5_2).toNat * 4)).block, (ad193.add ((x5_2).toNat * 4)).off + 2, none⟩ = some (.int .i64 ((rd_T47 l0 x5_2).f2)) ∧ w'.cell? ⟨(ad193.add ((x5_2).toNat * 4)).block, (ad193.add ((x5_2).toNat * 4)).off + 3, none⟩ = some (.int .i64 ((rd_T47 l0 x5_2).f3)) ∧ w'.cell? (ad194.add ((x5_2).toNat * 2)) = some (.int .i64 ((rd_T58 l1 x5_2).f0)) ∧ w'.cell? ⟨(ad194.add ((x5_2).toNat * 2)).block, (ad194.add ((x5_2).toNat * 2)).off + 1, none⟩ = some (.slice A194_1 ((rd_T58 l1 x5_2).f1).length c194_1) ∧ w'.cell? (ad194.add ((x5_2).toNat * 2)) = some (.int .i64 ((rd_T58 l1 x5_2).f0)) ∧ w'.cell? ⟨(ad194.add ((x5_2).toNat * 2)).block, (ad194.add ((x5_2).toNat * 2)).off + 1, none⟩ = some (.slice A197_1 ((rd_T58 l1 x5_2).f1).length c197_1) ∧ w'.cell? (ad194.add ((x5_2).toNat * 2)) = some (.int .i64 ((rd_T58 l1 x5_2).f0)) ∧ w'.cell? ⟨(ad194.add ((x5_2).toNat * 2)).block, (ad194.add ((x5_2).toNat * 2)).off + 1, none⟩ = some (.slice A197_1 ((rd_T58 l1 x5_2).f1).length c197_1)) (ds := []) (bm 40 0) (by kernel_rfl) rfl (bm0 _) ⟨(hL HB hw193_0), (hL HB hw193_1), (hL HB hw193_2), (hL HB hw193_3), (hL HB hw194_0), (hL HB hw194_1), (hL HB hw197_0), (hL HB hw197_1), (hL HB hw198_0), (hL HB hw198_1)⟩ (fun hHeld => ?_); refine with_tabW spec_FitsFormat.tab6 spec_FitsFormat.bits6 (fun HT_ HW_ => ?_)
            generalize wr.drew = w24 at HB HR194_1 HR197_1 HR198_1 hx193_0 hx193_1 hx193_2 hx193_3 hx194_0 hx194_1 hx197_0 hx197_1 hx198_0 hx198_1 hHeld ⊢
            refine pU 0 (some 22) (bm 40 1) HT_ rfl rfl ?_
            refine pU 1 (some 23) (bm 40 3) HT_ rfl rfl ?_
            refine pU 2 (some 24) (bm 40 7) HT_ rfl rfl ?_
            refine one_ (i := 3) (N := some 25) (bm 40 15) rfl rfl (one_of HT_.out (by kernel_rfl)) (by decide) (fun K hK => ?_)
            refine goes_ Try.func43 (by kernel_rfl) rfl #[.slice (some ad193) l0.length c0, .slice (some ad194) l1.length c1, .int .i64 x5_2] (by rfl) rfl rfl zG ?_
            with_reducible refine (spec_IsThere.calls _ _ l0 _ _ l1 x5_2 true _ ?side1 ?side2 ?side3 ?side4 A10.out).mono ?_
            (case side1 => exact cS HR0 HB)
            (case side2 => exact HC0.out)
            (case side3 => exact cS HR1 HB)
            (case side4 => exact HC1.out)
            rintro e w25 ⟨rfl, hb⟩
            refine ⟨_, rfl, ?_⟩
            replace HB := bS HB hb
            (try clear hb)
            (try clear hb2)
            (try clear hk)
            (try clear hi)
            refine hK.out _ _ ⟨(hL HB hw193_0), (hL HB hw193_1), (hL HB hw193_2), (hL HB hw193_3), (hL HB hw194_0), (hL HB hw194_1), (hL HB hw197_0), (hL HB hw197_1), (hL HB hw198_0), (hL HB hw198_1)⟩ (fun hHeld => ?_)
            clear hK K
            refine norm_ (a' := ?_) ?_ ?_
            rotate_left
            ·show Act.put _ (some 25) _ = _
             simp only [Act.put, List.setIfInBounds_toArray, List.set_cons_zero, List.set_cons_succ, i64_w, i32_w]
             rfl
            refine pU 4 (some 26) (bm 40 31) HT_ rfl rfl ?_
            refine pU 5 (some 27) (bm 40 63) HT_ rfl rfl ?_
            refine pU 6 (some 28) (bm 40 127) HT_ rfl rfl ?_
            refine pU 7 (some 29) (bm 40 255) HT_ rfl rfl ?_
            refine pU 9 (some 31) (bm 40 767) HT_ rfl rfl ?_
            refine pU 10 (some 32) (bm 40 1791) HT_ rfl rfl ?_
            refine pU 11 (some 33) (bm 40 3839) HT_ rfl rfl ?_
            refine tU 8 (some 30) (bm 40 4095) HT_ HW_ rfl rfl hHeld ?_
            refine tU 12 (some 34) (bm 40 8191) HT_ HW_ rfl rfl hHeld ?_
            refine one_ (i := 13) (N := some 35) (bm 40 16383) rfl rfl (one_of HT_.out (by kernel_rfl)) (by decide) (fun K hK => ?_)
            refine goes_ Try.func58 (by kernel_rfl) rfl #[.agg #[.int .i64 ((rd_T47 l0 x5_2).f0), .int .i64 ((rd_T47 l0 x5_2).f1), .int .i64 ((rd_T47 l0 x5_2).f2), .int .i64 ((rd_T47 l0 x5_2).f3)], .agg #[.int .i64 ((rd_T58 l1 x5_2).f0), .slice A194_1 ((rd_T58 l1 x5_2).f1).length c194_1]] (by rfl) rfl rfl zG ?_
            with_reducible refine (spec_FitsField.calls k2 ((rd_T47 l0 x5_2).f0) ((rd_T47 l0 x5_2).f1) ((rd_T47 l0 x5_2).f2) ((rd_T47 l0 x5_2).f3) ((rd_T58 l1 x5_2).f0) _ _ ((rd_T58 l1 x5_2).f1) true _ ?side1 ?side2 A14.out).mono ?_
            (case side1 => exact cS HR194_1 HB)
            (case side2 => exact HC194_1.out)
            rintro e w26 ⟨rfl, hb⟩
            refine ⟨_, rfl, ?_⟩
            replace HB := bS HB hb
            (try clear hb)
            (try clear hb2)
            (try clear hk)
            (try clear hi)
            refine hK.out _ _ ⟨(hL HB hw193_0), (hL HB hw193_1), (hL HB hw193_2), (hL HB hw193_3), (hL HB hw194_0), (hL HB hw194_1), (hL HB hw197_0), (hL HB hw197_1), (hL HB hw198_0), (hL HB hw198_1)⟩ (fun hHeld => ?_)
            clear hK K
            refine norm_ (a' := ?_) ?_ ?_
            rotate_left
            ·show Act.put _ (some 35) _ = _
             simp only [Act.put, List.setIfInBounds_toArray, List.set_cons_zero, List.set_cons_succ, i64_w, i32_w]
             rfl
            refine pU 14 (some 36) (bm 40 32767) HT_ rfl rfl ?_
            refine pU 15 (some 37) (bm 40 65535) HT_ rfl rfl ?_
            refine pU 16 (some 38) (bm 40 131071) HT_ rfl rfl ?_
            refine pU 17 (some 39) (bm 40 262143) HT_ rfl rfl ?_
            refine pU 18 (some 40) (bm 40 524287) HT_ rfl rfl ?_
            refine pU 19 (some 41) (bm 40 1048575) HT_ rfl rfl ?_
            refine one_ (i := 20) (N := some 42) (bm 40 2097151) rfl rfl (one_of HT_.out (by kernel_rfl)) (by decide) (fun K hK => ?_)
            refine goes_ Try.func43 (by kernel_rfl) rfl #[.slice (some ad193) l0.length c0, .slice (some ad194) l1.length c1, .int .i64 x5_2] (by rfl) rfl rfl zG ?_
            with_reducible refine (spec_IsThere.calls _ _ l0 _ _ l1 x5_2 false _ ?side1 ?side2 ?side3 ?side4 A16.out).mono ?_
            (case side1 => exact cS HR0 HB)
            (case side2 => exact HC0.out)
            (case side3 => exact cS HR1 HB)
            (case side4 => exact HC1.out)
            rintro e w27 ⟨rfl, hb⟩
            refine ⟨_, rfl, ?_⟩
            replace HB := bS HB hb
            (try clear hb)
            (try clear hb2)
            (try clear hk)
            (try clear hi)
            refine hK.out _ _ ⟨(hL HB hw193_0), (hL HB hw193_1), (hL HB hw193_2), (hL HB hw193_3), (hL HB hw194_0), (hL HB hw194_1), (hL HB hw197_0), (hL HB hw197_1), (hL HB hw198_0), (hL HB hw198_1)⟩ (fun hHeld => ?_)
            clear hK K
            refine norm_ (a' := ?_) ?_ ?_
            rotate_left
            ·show Act.put _ (some 42) _ = _
             simp only [Act.put, List.setIfInBounds_toArray, List.set_cons_zero, List.set_cons_succ, i64_w, i32_w]
             rfl
            refine pU 21 (some 43) (bm 40 4194303) HT_ rfl rfl ?_
            refine pU 22 (some 44) (bm 40 8388607) HT_ rfl rfl ?_
            refine pU 23 (some 45) (bm 40 16777215) HT_ rfl rfl ?_
            refine pU 24 (some 46) (bm 40 33554431) HT_ rfl rfl ?_
            refine pU 25 (some 47) (bm 40 67108863) HT_ rfl rfl ?_
            refine pU 26 (some 48) (bm 40 134217727) HT_ rfl rfl ?_
            refine tU 27 (some 49) (bm 40 268435455) HT_ HW_ rfl rfl hHeld ?_
            refine pU 28 (some 50) (bm 40 536870911) HT_ rfl rfl ?_
            refine pU 29 (some 51) (bm 40 1073741823) HT_ rfl rfl ?_
            refine pU 30 (some 52) (bm 40 2147483647) HT_ rfl rfl ?_
            refine pU 31 (some 53) (bm 40 4294967295) HT_ rfl rfl ?_
            refine pU 32 (some 54) (bm 40 8589934591) HT_ rfl rfl ?_
            refine pU 33 (some 55) (bm 40 17179869183) HT_ rfl rfl ?_
            refine tU 34 (some 56) (bm 40 34359738367) HT_ HW_ rfl rfl hHeld ?_
            refine pU 35 (some 57) (bm 40 68719476735) HT_ rfl rfl ?_
            refine pU 36 (some 58) (bm 40 137438953471) HT_ rfl rfl ?_
            refine pU 37 (some 59) (bm 40 274877906943) HT_ rfl rfl ?_
            refine pU 38 (some 60) (bm 40 549755813887) HT_ rfl rfl ?_
            refine pU 39 (some 61) (bm 40 1099511627775) HT_ rfl rfl ?_
            refine done_ (done_of HT_.out (by kernel_rfl)) ?_
            try clear hHeld
            try go_wp2
            go_ret
            exact ⟨zE, zB HB⟩
           ·rw [if_neg c23] at H
            have c23b0 : decide (0 < (((rd_T58 l1 x5_2).f1).length : Int)) = false := decide_eq_false c23
            have c23b1 : decide (0 < ((rd_T58 l1 x5_2).f1).length) = false := decide_eq_false (by omega)
            clear c23
            have H' := Aside0.mk H
            clear H
            try go_wp2
            replace HB := Aside0.mk (below_drew1 HB.out)
            have p193 : 0 ≤ (x5_2 : Int) := zD
            have q193 : x5_2 < (l0.length : Int) := zD
            obtain ⟨ad193, e193, hx193_0, hx193_1, hx193_2, hx193_3⟩ := at_T47 HR0.out x5_2 p193 q193
            have hw193_3 := hx193_3
            have hw193_2 := hx193_2
            have hw193_1 := hx193_1
            have hw193_0 := hx193_0
            cases e193
            replace hx193_0 := hL HB hx193_0
            replace hx193_1 := hL HB hx193_1
            replace hx193_2 := hL HB hx193_2
            replace hx193_3 := hL HB hx193_3
            replace p193 := eq_true p193
            replace q193 := eq_true q193
            have p194 : 0 ≤ (x5_2 : Int) := zD
            have q194 : x5_2 < (l1.length : Int) := zD
            obtain ⟨ad194, A194_1, c194_1, e194, hx194_0, hx194_1, hl194_1, hi194_1⟩ := at_T58 HR1.out x5_2 p194 q194
            have hw194_1 := hx194_1
            have hw194_0 := hx194_0
            cases e194
            replace hx194_0 := hL HB hx194_0
            replace hx194_1 := hL HB hx194_1
            have HR194_1 := Aside0.mk hi194_1
            have HC194_1 := Aside0.mk hl194_1
            clear hi194_1 hl194_1
            replace p194 := eq_true p194
            replace q194 := eq_true q194
            have p197 : 0 ≤ (x5_2 : Int) := zD
            have q197 : x5_2 < (l1.length : Int) := zD
            obtain ⟨ad197, A197_1, c197_1, e197, hx197_0, hx197_1, hl197_1, hi197_1⟩ := at_T58 HR1.out x5_2 p197 q197
            have hw197_1 := hx197_1
            have hw197_0 := hx197_0
            obtain rfl : ad194 = ad197 := (by injection e197)
            replace hx197_0 := hL HB hx197_0
            replace hx197_1 := hL HB hx197_1
            have HR197_1 := Aside0.mk hi197_1
            have HC197_1 := Aside0.mk hl197_1
            clear hi197_1 hl197_1
            replace p197 := eq_true p197
            replace q197 := eq_true q197
            have p198 : 0 ≤ (x5_2 : Int) := zD
            have q198 : x5_2 < (l1.length : Int) := zD
            obtain ⟨ad198, A198_1, c198_1, e198, hx198_0, hx198_1, hl198_1, hi198_1⟩ := at_T58 HR1.out x5_2 p198 q198
            have hw198_1 := hx198_1
            have hw198_0 := hx198_0
            obtain rfl : ad194 = ad198 := (by injection e198)
            replace hx198_0 := hL HB hx198_0
            replace hx198_1 := hL HB hx198_1
            have HR198_1 := Aside0.mk hi198_1
            have HC198_1 := Aside0.mk hl198_1
            clear hi198_1 hl198_1
            replace p198 := eq_true p198
            replace q198 := eq_true q198
            have ea_ := Option.some.inj (hx197_1.symm.trans hx198_1)
            injection ea_ with ea_ en_ ec_
            subst ea_
            subst ec_
            clear en_
            refine start_ (n := 40) (S := fun w' => w'.cell? (ad193.add ((x5_2).toNat * 4)) = some (.int .i64 ((rd_T47 l0 x5_2).f0)) ∧ w'.cell? ⟨(ad193.add ((x5_2).toNat * 4)).block, (ad193.add ((x5_2).toNat * 4)).off + 1, none⟩ = some (.int .i64 ((rd_T47 l0 x5_2).f1)) ∧ w'.cell? ⟨(ad193.add ((x5_2).toNat * 4)).block, (ad193.add ((x5_2).toNat * 4)).off + 2, none⟩ = some (.int .i64 ((rd_T47 l0 x5_2).f2)) ∧ w'.cell? ⟨(ad193.add ((x5_2).toNat * 4)).block, (ad193.add ((x5_2).toNat * 4)).off + 3, none⟩ = some (.int .i64 ((rd_T47 l0 x5_2).f3)) ∧ w'.cell? (ad194.add ((x5_2).toNat * 2)) = some (.int .i64 ((rd_T58 l1 x5_2).f0)) ∧ w'.cell? ⟨(ad194.add ((x5_2).toNat * 2)).block, (ad194.add ((x5_2).toNat * 2)).off + 1, none⟩ = some (.slice A194_1 ((rd_T58 l1 x5_2).f1).length c194_1) ∧ w'.cell? (ad194.add ((x5_2).toNat * 2)) = some (.int .i64 ((rd_T58 l1 x5_2).f0)) ∧ w'.cell? ⟨(ad194.add ((x5_2).toNat * 2)).block, (ad194.add ((x5_2).toNat * 2)).off + 1, none⟩ = some (.slice A197_1 ((rd_T58 l1 x5_2).f1).length c197_1) ∧ w'.cell? (ad194.add ((x5_2).toNat * 2)) = some (.int .i64 ((rd_T58 l1 x5_2).f0)) ∧ w'.cell? ⟨(ad194.add ((x5_2).toNat * 2)).block, (ad194.add ((x5_2).toNat * 2)).off + 1, none⟩ = some (.slice A197_1 ((rd_T58 l1 x5_2).f1).length c197_1)) (ds := []) (bm 40 0) (by kernel_rfl) rfl (bm0 _) ⟨(hL HB hw193_0), (hL HB hw193_1), (hL HB hw193_2), (hL HB hw193_3), (hL HB hw194_0), (hL HB hw194_1), (hL HB hw197_0), (hL HB hw197_1), (hL HB hw198_0), (hL HB hw198_1)⟩ (fun hHeld => ?_); refine with_tabW spec_FitsFormat.tab6 spec_FitsFormat.bits6 (fun HT_ HW_ => ?_)
            generalize wr.drew = w28 at HB HR194_1 HR197_1 HR198_1 hx193_0 hx193_1 hx193_2 hx193_3 hx194_0 hx194_1 hx197_0 hx197_1 hx198_0 hx198_1 hHeld ⊢
            refine pU 0 (some 22) (bm 40 1) HT_ rfl rfl ?_
            refine pU 1 (some 23) (bm 40 3) HT_ rfl rfl ?_
            refine pU 2 (some 24) (bm 40 7) HT_ rfl rfl ?_
            refine one_ (i := 3) (N := some 25) (bm 40 15) rfl rfl (one_of HT_.out (by kernel_rfl)) (by decide) (fun K hK => ?_)
            refine goes_ Try.func43 (by kernel_rfl) rfl #[.slice (some ad193) l0.length c0, .slice (some ad194) l1.length c1, .int .i64 x5_2] (by rfl) rfl rfl zG ?_
            with_reducible refine (spec_IsThere.calls _ _ l0 _ _ l1 x5_2 true _ ?side1 ?side2 ?side3 ?side4 A10.out).mono ?_
            (case side1 => exact cS HR0 HB)
            (case side2 => exact HC0.out)
            (case side3 => exact cS HR1 HB)
            (case side4 => exact HC1.out)
            rintro e w29 ⟨rfl, hb⟩
            refine ⟨_, rfl, ?_⟩
            replace HB := bS HB hb
            (try clear hb)
            (try clear hb2)
            (try clear hk)
            (try clear hi)
            refine hK.out _ _ ⟨(hL HB hw193_0), (hL HB hw193_1), (hL HB hw193_2), (hL HB hw193_3), (hL HB hw194_0), (hL HB hw194_1), (hL HB hw197_0), (hL HB hw197_1), (hL HB hw198_0), (hL HB hw198_1)⟩ (fun hHeld => ?_)
            clear hK K
            refine norm_ (a' := ?_) ?_ ?_
            rotate_left
            ·show Act.put _ (some 25) _ = _
             simp only [Act.put, List.setIfInBounds_toArray, List.set_cons_zero, List.set_cons_succ, i64_w, i32_w]
             rfl
            refine pU 4 (some 26) (bm 40 31) HT_ rfl rfl ?_
            refine pU 5 (some 27) (bm 40 63) HT_ rfl rfl ?_
            refine pU 6 (some 28) (bm 40 127) HT_ rfl rfl ?_
            refine pU 7 (some 29) (bm 40 255) HT_ rfl rfl ?_
            refine pU 9 (some 31) (bm 40 767) HT_ rfl rfl ?_
            refine pU 10 (some 32) (bm 40 1791) HT_ rfl rfl ?_
            refine pU 11 (some 33) (bm 40 3839) HT_ rfl rfl ?_
            refine tU 8 (some 30) (bm 40 4095) HT_ HW_ rfl rfl hHeld ?_
            refine tU 12 (some 34) (bm 40 8191) HT_ HW_ rfl rfl hHeld ?_
            refine one_ (i := 13) (N := some 35) (bm 40 16383) rfl rfl (one_of HT_.out (by kernel_rfl)) (by decide) (fun K hK => ?_)
            refine goes_ Try.func58 (by kernel_rfl) rfl #[.agg #[.int .i64 ((rd_T47 l0 x5_2).f0), .int .i64 ((rd_T47 l0 x5_2).f1), .int .i64 ((rd_T47 l0 x5_2).f2), .int .i64 ((rd_T47 l0 x5_2).f3)], .agg #[.int .i64 ((rd_T58 l1 x5_2).f0), .slice A194_1 ((rd_T58 l1 x5_2).f1).length c194_1]] (by rfl) rfl rfl zG ?_
            with_reducible refine (spec_FitsField.calls k2 ((rd_T47 l0 x5_2).f0) ((rd_T47 l0 x5_2).f1) ((rd_T47 l0 x5_2).f2) ((rd_T47 l0 x5_2).f3) ((rd_T58 l1 x5_2).f0) _ _ ((rd_T58 l1 x5_2).f1) true _ ?side1 ?side2 A14.out).mono ?_
            (case side1 => exact cS HR194_1 HB)
            (case side2 => exact HC194_1.out)
            rintro e w30 ⟨rfl, hb⟩
            refine ⟨_, rfl, ?_⟩
            replace HB := bS HB hb
            (try clear hb)
            (try clear hb2)
            (try clear hk)
            (try clear hi)
            refine hK.out _ _ ⟨(hL HB hw193_0), (hL HB hw193_1), (hL HB hw193_2), (hL HB hw193_3), (hL HB hw194_0), (hL HB hw194_1), (hL HB hw197_0), (hL HB hw197_1), (hL HB hw198_0), (hL HB hw198_1)⟩ (fun hHeld => ?_)
            clear hK K
            refine norm_ (a' := ?_) ?_ ?_
            rotate_left
            ·show Act.put _ (some 35) _ = _
             simp only [Act.put, List.setIfInBounds_toArray, List.set_cons_zero, List.set_cons_succ, i64_w, i32_w]
             rfl
            refine pU 14 (some 36) (bm 40 32767) HT_ rfl rfl ?_
            refine pU 15 (some 37) (bm 40 65535) HT_ rfl rfl ?_
            refine pU 16 (some 38) (bm 40 131071) HT_ rfl rfl ?_
            refine pU 17 (some 39) (bm 40 262143) HT_ rfl rfl ?_
            refine pU 18 (some 40) (bm 40 524287) HT_ rfl rfl ?_
            refine pU 19 (some 41) (bm 40 1048575) HT_ rfl rfl ?_
            refine one_ (i := 20) (N := some 42) (bm 40 2097151) rfl rfl (one_of HT_.out (by kernel_rfl)) (by decide) (fun K hK => ?_)
            refine goes_ Try.func43 (by kernel_rfl) rfl #[.slice (some ad193) l0.length c0, .slice (some ad194) l1.length c1, .int .i64 x5_2] (by rfl) rfl rfl zG ?_
            with_reducible refine (spec_IsThere.calls _ _ l0 _ _ l1 x5_2 false _ ?side1 ?side2 ?side3 ?side4 A16.out).mono ?_
            (case side1 => exact cS HR0 HB)
            (case side2 => exact HC0.out)
            (case side3 => exact cS HR1 HB)
            (case side4 => exact HC1.out)
            rintro e w31 ⟨rfl, hb⟩
            refine ⟨_, rfl, ?_⟩
            replace HB := bS HB hb
            (try clear hb)
            (try clear hb2)
            (try clear hk)
            (try clear hi)
            refine hK.out _ _ ⟨(hL HB hw193_0), (hL HB hw193_1), (hL HB hw193_2), (hL HB hw193_3), (hL HB hw194_0), (hL HB hw194_1), (hL HB hw197_0), (hL HB hw197_1), (hL HB hw198_0), (hL HB hw198_1)⟩ (fun hHeld => ?_)
            clear hK K
            refine norm_ (a' := ?_) ?_ ?_
            rotate_left
            ·show Act.put _ (some 42) _ = _
             simp only [Act.put, List.setIfInBounds_toArray, List.set_cons_zero, List.set_cons_succ, i64_w, i32_w]
             rfl
            refine pU 21 (some 43) (bm 40 4194303) HT_ rfl rfl ?_
            refine pU 22 (some 44) (bm 40 8388607) HT_ rfl rfl ?_
            refine pU 23 (some 45) (bm 40 16777215) HT_ rfl rfl ?_
            refine pU 24 (some 46) (bm 40 33554431) HT_ rfl rfl ?_
            refine pU 25 (some 47) (bm 40 67108863) HT_ rfl rfl ?_
            refine pU 26 (some 48) (bm 40 134217727) HT_ rfl rfl ?_
            refine tU 27 (some 49) (bm 40 268435455) HT_ HW_ rfl rfl hHeld ?_
            refine pU 28 (some 50) (bm 40 536870911) HT_ rfl rfl ?_
            refine pU 29 (some 51) (bm 40 1073741823) HT_ rfl rfl ?_
            refine pU 30 (some 52) (bm 40 2147483647) HT_ rfl rfl ?_
            refine pU 31 (some 53) (bm 40 4294967295) HT_ rfl rfl ?_
            refine pU 32 (some 54) (bm 40 8589934591) HT_ rfl rfl ?_
            refine pU 33 (some 55) (bm 40 17179869183) HT_ rfl rfl ?_
            refine tU 34 (some 56) (bm 40 34359738367) HT_ HW_ rfl rfl hHeld ?_
            refine pU 35 (some 57) (bm 40 68719476735) HT_ rfl rfl ?_
            refine pU 36 (some 58) (bm 40 137438953471) HT_ rfl rfl ?_
            refine pU 37 (some 59) (bm 40 274877906943) HT_ rfl rfl ?_
            refine pU 38 (some 60) (bm 40 549755813887) HT_ rfl rfl ?_
            refine pU 39 (some 61) (bm 40 1099511627775) HT_ rfl rfl ?_
            refine done_ (done_of HT_.out (by kernel_rfl)) ?_
            try clear hHeld
            try go_wp2
            go_roundg k2
            case measure => have := HJ2.out; have := HK2.out; omega
            case rel => exact ⟨(wrap64 (x5_2 + 1)), zF, H', ⟨by have := HJ2.out; have := HK2.out; omega⟩, ⟨zB HB⟩⟩
          ·rw [if_neg c22] at H
           have c22b0 : (((rd_T58 l1 x5_2).f0) == 0) = false := beq_eq_false_iff_ne.mpr c22
           have c22b1 : (((rd_T58 l1 x5_2).f0) != 0) = true := bne_iff_ne.mpr c22
           obtain rfl := Option.some.inj H
           try go_wp2
           replace HB := Aside0.mk (below_drew1 HB.out)
           have p193 : 0 ≤ (x5_2 : Int) := zD
           have q193 : x5_2 < (l0.length : Int) := zD
           obtain ⟨ad193, e193, hx193_0, hx193_1, hx193_2, hx193_3⟩ := at_T47 HR0.out x5_2 p193 q193
           have hw193_3 := hx193_3
           have hw193_2 := hx193_2
           have hw193_1 := hx193_1
           have hw193_0 := hx193_0
           cases e193
           replace hx193_0 := hL HB hx193_0
           replace hx193_1 := hL HB hx193_1
           replace hx193_2 := hL HB hx193_2
           replace hx193_3 := hL HB hx193_3
           replace p193 := eq_true p193
           replace q193 := eq_true q193
           have p194 : 0 ≤ (x5_2 : Int) := zD
           have q194 : x5_2 < (l1.length : Int) := zD
           obtain ⟨ad194, A194_1, c194_1, e194, hx194_0, hx194_1, hl194_1, hi194_1⟩ := at_T58 HR1.out x5_2 p194 q194
           have hw194_1 := hx194_1
           have hw194_0 := hx194_0
           cases e194
           replace hx194_0 := hL HB hx194_0
           replace hx194_1 := hL HB hx194_1
           have HR194_1 := Aside0.mk hi194_1
           have HC194_1 := Aside0.mk hl194_1
           clear hi194_1 hl194_1
           replace p194 := eq_true p194
           replace q194 := eq_true q194
           have p197 : 0 ≤ (x5_2 : Int) := zD
           have q197 : x5_2 < (l1.length : Int) := zD
           obtain ⟨ad197, A197_1, c197_1, e197, hx197_0, hx197_1, hl197_1, hi197_1⟩ := at_T58 HR1.out x5_2 p197 q197
           have hw197_1 := hx197_1
           have hw197_0 := hx197_0
           obtain rfl : ad194 = ad197 := (by injection e197)
           replace hx197_0 := hL HB hx197_0
           replace hx197_1 := hL HB hx197_1
           have HR197_1 := Aside0.mk hi197_1
           have HC197_1 := Aside0.mk hl197_1
           clear hi197_1 hl197_1
           replace p197 := eq_true p197
           replace q197 := eq_true q197
           refine start_ (n := 40) (S := fun w' => w'.cell? (ad193.add ((x5_2).toNat * 4)) = some (.int .i64 ((rd_T47 l0 x5_2).f0)) ∧ w'.cell? ⟨(ad193.add ((x5_2).toNat * 4)).block, (ad193.add ((x5_2).toNat * 4)).off + 1, none⟩ = some (.int .i64 ((rd_T47 l0 x5_2).f1)) ∧ w'.cell? ⟨(ad193.add ((x5_2).toNat * 4)).block, (ad193.add ((x5_2).toNat * 4)).off + 2, none⟩ = some (.int .i64 ((rd_T47 l0 x5_2).f2)) ∧ w'.cell? ⟨(ad193.add ((x5_2).toNat * 4)).block, (ad193.add ((x5_2).toNat * 4)).off + 3, none⟩ = some (.int .i64 ((rd_T47 l0 x5_2).f3)) ∧ w'.cell? (ad194.add ((x5_2).toNat * 2)) = some (.int .i64 ((rd_T58 l1 x5_2).f0)) ∧ w'.cell? ⟨(ad194.add ((x5_2).toNat * 2)).block, (ad194.add ((x5_2).toNat * 2)).off + 1, none⟩ = some (.slice A194_1 ((rd_T58 l1 x5_2).f1).length c194_1) ∧ w'.cell? (ad194.add ((x5_2).toNat * 2)) = some (.int .i64 ((rd_T58 l1 x5_2).f0)) ∧ w'.cell? ⟨(ad194.add ((x5_2).toNat * 2)).block, (ad194.add ((x5_2).toNat * 2)).off + 1, none⟩ = some (.slice A197_1 ((rd_T58 l1 x5_2).f1).length c197_1)) (ds := []) (bm 40 0) (by kernel_rfl) rfl (bm0 _) ⟨(hL HB hw193_0), (hL HB hw193_1), (hL HB hw193_2), (hL HB hw193_3), (hL HB hw194_0), (hL HB hw194_1), (hL HB hw197_0), (hL HB hw197_1)⟩ (fun hHeld => ?_); refine with_tabW spec_FitsFormat.tab6 spec_FitsFormat.bits6 (fun HT_ HW_ => ?_)
           generalize wr.drew = w32 at HB HR194_1 HR197_1 hx193_0 hx193_1 hx193_2 hx193_3 hx194_0 hx194_1 hx197_0 hx197_1 hHeld ⊢
           refine pU 0 (some 22) (bm 40 1) HT_ rfl rfl ?_
           refine pU 1 (some 23) (bm 40 3) HT_ rfl rfl ?_
           refine pU 2 (some 24) (bm 40 7) HT_ rfl rfl ?_
           refine one_ (i := 3) (N := some 25) (bm 40 15) rfl rfl (one_of HT_.out (by kernel_rfl)) (by decide) (fun K hK => ?_)
           refine goes_ Try.func43 (by kernel_rfl) rfl #[.slice (some ad193) l0.length c0, .slice (some ad194) l1.length c1, .int .i64 x5_2] (by rfl) rfl rfl zG ?_
           with_reducible refine (spec_IsThere.calls _ _ l0 _ _ l1 x5_2 true _ ?side1 ?side2 ?side3 ?side4 A10.out).mono ?_
           (case side1 => exact cS HR0 HB)
           (case side2 => exact HC0.out)
           (case side3 => exact cS HR1 HB)
           (case side4 => exact HC1.out)
           rintro e w33 ⟨rfl, hb⟩
           refine ⟨_, rfl, ?_⟩
           replace HB := bS HB hb
           (try clear hb)
           (try clear hb2)
           (try clear hk)
           (try clear hi)
           refine hK.out _ _ ⟨(hL HB hw193_0), (hL HB hw193_1), (hL HB hw193_2), (hL HB hw193_3), (hL HB hw194_0), (hL HB hw194_1), (hL HB hw197_0), (hL HB hw197_1)⟩ (fun hHeld => ?_)
           clear hK K
           refine norm_ (a' := ?_) ?_ ?_
           rotate_left
           ·show Act.put _ (some 25) _ = _
            simp only [Act.put, List.setIfInBounds_toArray, List.set_cons_zero, List.set_cons_succ, i64_w, i32_w]
            rfl
           refine pU 4 (some 26) (bm 40 31) HT_ rfl rfl ?_
           refine pU 5 (some 27) (bm 40 63) HT_ rfl rfl ?_
           refine pU 6 (some 28) (bm 40 127) HT_ rfl rfl ?_
           refine pU 7 (some 29) (bm 40 255) HT_ rfl rfl ?_
           refine pU 9 (some 31) (bm 40 767) HT_ rfl rfl ?_
           refine pU 10 (some 32) (bm 40 1791) HT_ rfl rfl ?_
           refine pU 11 (some 33) (bm 40 3839) HT_ rfl rfl ?_
           refine tU 8 (some 30) (bm 40 4095) HT_ HW_ rfl rfl hHeld ?_
           refine tU 12 (some 34) (bm 40 8191) HT_ HW_ rfl rfl hHeld ?_
           refine one_ (i := 13) (N := some 35) (bm 40 16383) rfl rfl (one_of HT_.out (by kernel_rfl)) (by decide) (fun K hK => ?_)
           refine goes_ Try.func58 (by kernel_rfl) rfl #[.agg #[.int .i64 ((rd_T47 l0 x5_2).f0), .int .i64 ((rd_T47 l0 x5_2).f1), .int .i64 ((rd_T47 l0 x5_2).f2), .int .i64 ((rd_T47 l0 x5_2).f3)], .agg #[.int .i64 ((rd_T58 l1 x5_2).f0), .slice A194_1 ((rd_T58 l1 x5_2).f1).length c194_1]] (by rfl) rfl rfl zG ?_
           with_reducible refine (spec_FitsField.calls k2 ((rd_T47 l0 x5_2).f0) ((rd_T47 l0 x5_2).f1) ((rd_T47 l0 x5_2).f2) ((rd_T47 l0 x5_2).f3) ((rd_T58 l1 x5_2).f0) _ _ ((rd_T58 l1 x5_2).f1) true _ ?side1 ?side2 A14.out).mono ?_
           (case side1 => exact cS HR194_1 HB)
           (case side2 => exact HC194_1.out)
           rintro e w34 ⟨rfl, hb⟩
           refine ⟨_, rfl, ?_⟩
           replace HB := bS HB hb
           (try clear hb)
           (try clear hb2)
           (try clear hk)
           (try clear hi)
           refine hK.out _ _ ⟨(hL HB hw193_0), (hL HB hw193_1), (hL HB hw193_2), (hL HB hw193_3), (hL HB hw194_0), (hL HB hw194_1), (hL HB hw197_0), (hL HB hw197_1)⟩ (fun hHeld => ?_)
           clear hK K
           refine norm_ (a' := ?_) ?_ ?_
           rotate_left
           ·show Act.put _ (some 35) _ = _
            simp only [Act.put, List.setIfInBounds_toArray, List.set_cons_zero, List.set_cons_succ, i64_w, i32_w]
            rfl
           refine pU 14 (some 36) (bm 40 32767) HT_ rfl rfl ?_
           refine pU 15 (some 37) (bm 40 65535) HT_ rfl rfl ?_
           refine pU 16 (some 38) (bm 40 131071) HT_ rfl rfl ?_
           refine pU 17 (some 39) (bm 40 262143) HT_ rfl rfl ?_
           refine pU 18 (some 40) (bm 40 524287) HT_ rfl rfl ?_
           refine pU 19 (some 41) (bm 40 1048575) HT_ rfl rfl ?_
           refine one_ (i := 20) (N := some 42) (bm 40 2097151) rfl rfl (one_of HT_.out (by kernel_rfl)) (by decide) (fun K hK => ?_)
           refine goes_ Try.func43 (by kernel_rfl) rfl #[.slice (some ad193) l0.length c0, .slice (some ad194) l1.length c1, .int .i64 x5_2] (by rfl) rfl rfl zG ?_
           with_reducible refine (spec_IsThere.calls _ _ l0 _ _ l1 x5_2 false _ ?side1 ?side2 ?side3 ?side4 A16.out).mono ?_
           (case side1 => exact cS HR0 HB)
           (case side2 => exact HC0.out)
           (case side3 => exact cS HR1 HB)
           (case side4 => exact HC1.out)
           rintro e w35 ⟨rfl, hb⟩
           refine ⟨_, rfl, ?_⟩
           replace HB := bS HB hb
           (try clear hb)
           (try clear hb2)
           (try clear hk)
           (try clear hi)
           refine hK.out _ _ ⟨(hL HB hw193_0), (hL HB hw193_1), (hL HB hw193_2), (hL HB hw193_3), (hL HB hw194_0), (hL HB hw194_1), (hL HB hw197_0), (hL HB hw197_1)⟩ (fun hHeld => ?_)
           clear hK K
           refine norm_ (a' := ?_) ?_ ?_
           rotate_left
           ·show Act.put _ (some 42) _ = _
            simp only [Act.put, List.setIfInBounds_toArray, List.set_cons_zero, List.set_cons_succ, i64_w, i32_w]
            rfl
           refine pU 21 (some 43) (bm 40 4194303) HT_ rfl rfl ?_
           refine pU 22 (some 44) (bm 40 8388607) HT_ rfl rfl ?_
           refine pU 23 (some 45) (bm 40 16777215) HT_ rfl rfl ?_
           refine pU 24 (some 46) (bm 40 33554431) HT_ rfl rfl ?_
           refine pU 25 (some 47) (bm 40 67108863) HT_ rfl rfl ?_
           refine pU 26 (some 48) (bm 40 134217727) HT_ rfl rfl ?_
           refine tU 27 (some 49) (bm 40 268435455) HT_ HW_ rfl rfl hHeld ?_
           refine pU 28 (some 50) (bm 40 536870911) HT_ rfl rfl ?_
           refine pU 29 (some 51) (bm 40 1073741823) HT_ rfl rfl ?_
           refine pV 30 (some 52) (bm 40 2147483647) HT_ rfl rfl ?_
           refine pV 31 (some 53) (bm 40 4294967295) HT_ rfl rfl ?_
           refine pV 32 (some 54) (bm 40 8589934591) HT_ rfl rfl ?_
           refine pV 33 (some 55) (bm 40 17179869183) HT_ rfl rfl ?_
           refine pV 34 (some 56) (bm 40 34359738367) HT_ rfl rfl ?_
           refine pV 35 (some 57) (bm 40 68719476735) HT_ rfl rfl ?_
           refine pV 36 (some 58) (bm 40 137438953471) HT_ rfl rfl ?_
           refine pU 37 (some 59) (bm 40 274877906943) HT_ rfl rfl ?_
           refine pU 38 (some 60) (bm 40 549755813887) HT_ rfl rfl ?_
           refine pU 39 (some 61) (bm 40 1099511627775) HT_ rfl rfl ?_
           refine done_ (done_of HT_.out (by kernel_rfl)) ?_
           try clear hHeld
           try go_wp2
           go_ret
           exact ⟨zE, zB HB⟩
        ·replace c15 := Bool.eq_false_iff.mpr c15
         subst c15
         have H1 : (some false) = some r := by rw [if_neg (show ¬ (false = true) by decide)] at H; exact H
         clear H
         have H := H1
         clear H1
         obtain rfl := Option.some.inj H
         try go_wp2
         replace HB := Aside0.mk (below_drew1 HB.out)
         have p193 : 0 ≤ (x5_2 : Int) := zD
         have q193 : x5_2 < (l0.length : Int) := zD
         obtain ⟨ad193, e193, hx193_0, hx193_1, hx193_2, hx193_3⟩ := at_T47 HR0.out x5_2 p193 q193
         have hw193_3 := hx193_3
         have hw193_2 := hx193_2
         have hw193_1 := hx193_1
         have hw193_0 := hx193_0
         cases e193
         replace hx193_0 := hL HB hx193_0
         replace hx193_1 := hL HB hx193_1
         replace hx193_2 := hL HB hx193_2
         replace hx193_3 := hL HB hx193_3
         replace p193 := eq_true p193
         replace q193 := eq_true q193
         have p194 : 0 ≤ (x5_2 : Int) := zD
         have q194 : x5_2 < (l1.length : Int) := zD
         obtain ⟨ad194, A194_1, c194_1, e194, hx194_0, hx194_1, hl194_1, hi194_1⟩ := at_T58 HR1.out x5_2 p194 q194
         have hw194_1 := hx194_1
         have hw194_0 := hx194_0
         cases e194
         replace hx194_0 := hL HB hx194_0
         replace hx194_1 := hL HB hx194_1
         have HR194_1 := Aside0.mk hi194_1
         have HC194_1 := Aside0.mk hl194_1
         clear hi194_1 hl194_1
         replace p194 := eq_true p194
         replace q194 := eq_true q194
         refine start_ (n := 40) (S := fun w' => w'.cell? (ad193.add ((x5_2).toNat * 4)) = some (.int .i64 ((rd_T47 l0 x5_2).f0)) ∧ w'.cell? ⟨(ad193.add ((x5_2).toNat * 4)).block, (ad193.add ((x5_2).toNat * 4)).off + 1, none⟩ = some (.int .i64 ((rd_T47 l0 x5_2).f1)) ∧ w'.cell? ⟨(ad193.add ((x5_2).toNat * 4)).block, (ad193.add ((x5_2).toNat * 4)).off + 2, none⟩ = some (.int .i64 ((rd_T47 l0 x5_2).f2)) ∧ w'.cell? ⟨(ad193.add ((x5_2).toNat * 4)).block, (ad193.add ((x5_2).toNat * 4)).off + 3, none⟩ = some (.int .i64 ((rd_T47 l0 x5_2).f3)) ∧ w'.cell? (ad194.add ((x5_2).toNat * 2)) = some (.int .i64 ((rd_T58 l1 x5_2).f0)) ∧ w'.cell? ⟨(ad194.add ((x5_2).toNat * 2)).block, (ad194.add ((x5_2).toNat * 2)).off + 1, none⟩ = some (.slice A194_1 ((rd_T58 l1 x5_2).f1).length c194_1)) (ds := []) (bm 40 0) (by kernel_rfl) rfl (bm0 _) ⟨(hL HB hw193_0), (hL HB hw193_1), (hL HB hw193_2), (hL HB hw193_3), (hL HB hw194_0), (hL HB hw194_1)⟩ (fun hHeld => ?_); refine with_tabW spec_FitsFormat.tab6 spec_FitsFormat.bits6 (fun HT_ HW_ => ?_)
         generalize wr.drew = w36 at HB HR194_1 hx193_0 hx193_1 hx193_2 hx193_3 hx194_0 hx194_1 hHeld ⊢
         refine pU 0 (some 22) (bm 40 1) HT_ rfl rfl ?_
         refine pU 1 (some 23) (bm 40 3) HT_ rfl rfl ?_
         refine pU 2 (some 24) (bm 40 7) HT_ rfl rfl ?_
         refine one_ (i := 3) (N := some 25) (bm 40 15) rfl rfl (one_of HT_.out (by kernel_rfl)) (by decide) (fun K hK => ?_)
         refine goes_ Try.func43 (by kernel_rfl) rfl #[.slice (some ad193) l0.length c0, .slice (some ad194) l1.length c1, .int .i64 x5_2] (by rfl) rfl rfl zG ?_
         with_reducible refine (spec_IsThere.calls _ _ l0 _ _ l1 x5_2 true _ ?side1 ?side2 ?side3 ?side4 A10.out).mono ?_
         (case side1 => exact cS HR0 HB)
         (case side2 => exact HC0.out)
         (case side3 => exact cS HR1 HB)
         (case side4 => exact HC1.out)
         rintro e w37 ⟨rfl, hb⟩
         refine ⟨_, rfl, ?_⟩
         replace HB := bS HB hb
         (try clear hb)
         (try clear hb2)
         (try clear hk)
         (try clear hi)
         refine hK.out _ _ ⟨(hL HB hw193_0), (hL HB hw193_1), (hL HB hw193_2), (hL HB hw193_3), (hL HB hw194_0), (hL HB hw194_1)⟩ (fun hHeld => ?_)
         clear hK K
         refine norm_ (a' := ?_) ?_ ?_
         rotate_left
         ·show Act.put _ (some 25) _ = _
          simp only [Act.put, List.setIfInBounds_toArray, List.set_cons_zero, List.set_cons_succ, i64_w, i32_w]
          rfl
         refine pU 4 (some 26) (bm 40 31) HT_ rfl rfl ?_
         refine pU 5 (some 27) (bm 40 63) HT_ rfl rfl ?_
         refine pU 6 (some 28) (bm 40 127) HT_ rfl rfl ?_
         refine pU 7 (some 29) (bm 40 255) HT_ rfl rfl ?_
         refine pU 9 (some 31) (bm 40 767) HT_ rfl rfl ?_
         refine pU 10 (some 32) (bm 40 1791) HT_ rfl rfl ?_
         refine pU 11 (some 33) (bm 40 3839) HT_ rfl rfl ?_
         refine tU 8 (some 30) (bm 40 4095) HT_ HW_ rfl rfl hHeld ?_
         refine tU 12 (some 34) (bm 40 8191) HT_ HW_ rfl rfl hHeld ?_
         refine one_ (i := 13) (N := some 35) (bm 40 16383) rfl rfl (one_of HT_.out (by kernel_rfl)) (by decide) (fun K hK => ?_)
         refine goes_ Try.func58 (by kernel_rfl) rfl #[.agg #[.int .i64 ((rd_T47 l0 x5_2).f0), .int .i64 ((rd_T47 l0 x5_2).f1), .int .i64 ((rd_T47 l0 x5_2).f2), .int .i64 ((rd_T47 l0 x5_2).f3)], .agg #[.int .i64 ((rd_T58 l1 x5_2).f0), .slice A194_1 ((rd_T58 l1 x5_2).f1).length c194_1]] (by rfl) rfl rfl zG ?_
         with_reducible refine (spec_FitsField.calls k2 ((rd_T47 l0 x5_2).f0) ((rd_T47 l0 x5_2).f1) ((rd_T47 l0 x5_2).f2) ((rd_T47 l0 x5_2).f3) ((rd_T58 l1 x5_2).f0) _ _ ((rd_T58 l1 x5_2).f1) false _ ?side1 ?side2 A14.out).mono ?_
         (case side1 => exact cS HR194_1 HB)
         (case side2 => exact HC194_1.out)
         rintro e w38 ⟨rfl, hb⟩
         refine ⟨_, rfl, ?_⟩
         replace HB := bS HB hb
         (try clear hb)
         (try clear hb2)
         (try clear hk)
         (try clear hi)
         refine hK.out _ _ ⟨(hL HB hw193_0), (hL HB hw193_1), (hL HB hw193_2), (hL HB hw193_3), (hL HB hw194_0), (hL HB hw194_1)⟩ (fun hHeld => ?_)
         clear hK K
         refine norm_ (a' := ?_) ?_ ?_
         rotate_left
         ·show Act.put _ (some 35) _ = _
          simp only [Act.put, List.setIfInBounds_toArray, List.set_cons_zero, List.set_cons_succ, i64_w, i32_w]
          rfl
         refine pU 14 (some 36) (bm 40 32767) HT_ rfl rfl ?_
         refine pU 15 (some 37) (bm 40 65535) HT_ rfl rfl ?_
         refine pU 16 (some 38) (bm 40 131071) HT_ rfl rfl ?_
         refine pV 17 (some 39) (bm 40 262143) HT_ rfl rfl ?_
         refine pV 18 (some 40) (bm 40 524287) HT_ rfl rfl ?_
         refine pV 19 (some 41) (bm 40 1048575) HT_ rfl rfl ?_
         refine pV 20 (some 42) (bm 40 2097151) HT_ rfl rfl ?_
         refine pV 21 (some 43) (bm 40 4194303) HT_ rfl rfl ?_
         refine pV 22 (some 44) (bm 40 8388607) HT_ rfl rfl ?_
         refine pV 23 (some 45) (bm 40 16777215) HT_ rfl rfl ?_
         refine pV 24 (some 46) (bm 40 33554431) HT_ rfl rfl ?_
         refine pV 25 (some 47) (bm 40 67108863) HT_ rfl rfl ?_
         refine pV 26 (some 48) (bm 40 134217727) HT_ rfl rfl ?_
         refine pV 27 (some 49) (bm 40 268435455) HT_ rfl rfl ?_
         refine pV 28 (some 50) (bm 40 536870911) HT_ rfl rfl ?_
         refine pV 29 (some 51) (bm 40 1073741823) HT_ rfl rfl ?_
         refine pV 30 (some 52) (bm 40 2147483647) HT_ rfl rfl ?_
         refine pV 31 (some 53) (bm 40 4294967295) HT_ rfl rfl ?_
         refine pV 32 (some 54) (bm 40 8589934591) HT_ rfl rfl ?_
         refine pV 33 (some 55) (bm 40 17179869183) HT_ rfl rfl ?_
         refine pV 34 (some 56) (bm 40 34359738367) HT_ rfl rfl ?_
         refine pV 35 (some 57) (bm 40 68719476735) HT_ rfl rfl ?_
         refine pV 36 (some 58) (bm 40 137438953471) HT_ rfl rfl ?_
         refine pV 37 (some 59) (bm 40 274877906943) HT_ rfl rfl ?_
         refine pV 38 (some 60) (bm 40 549755813887) HT_ rfl rfl ?_
         refine pU 39 (some 61) (bm 40 1099511627775) HT_ rfl rfl ?_
         refine done_ (done_of HT_.out (by kernel_rfl)) ?_
         try clear hHeld
         try go_wp2
         go_ret
         exact ⟨zE, zB HB⟩
       ·replace c11 := Bool.eq_false_iff.mpr c11
        subst c11
        have H1 : ((spec_IsThere.f l0 l1 x5_2).bind fun t199 => (if t199 = true then (spec_FitsFormat.l0 k2 l0 l1 (wrap64 (x5_2 + 1))) else (if 0 ≤ x5_2 then (if x5_2 < (l1.length : Int) then (if ((rd_T58 l1 x5_2).f0) = 0 then (if (((rd_T58 l1 x5_2).f1).length : Int) > 0 then (some false) else (spec_FitsFormat.l0 k2 l0 l1 (wrap64 (x5_2 + 1)))) else (some false)) else (none)) else (none)))) = some r := by rw [if_neg (show ¬ (false = true) by decide)] at H; exact H
        clear H
        have H := H1
        clear H1
        obtain ⟨t199, A39, H⟩ := bindS H
        by_cases c40 : t199 = true
        ·subst c40
         have H1 : (spec_FitsFormat.l0 k2 l0 l1 (wrap64 (x5_2 + 1))) = some r := by rw [if_pos rfl] at H; exact H
         clear H
         have H := H1
         clear H1
         have H' := Aside0.mk H
         clear H
         try go_wp2
         replace HB := Aside0.mk (below_drew1 HB.out)
         refine start_ (n := 40) (S := fun w' => True) (ds := []) (bm 40 0) (by kernel_rfl) rfl (bm0 _) trivial (fun hHeld => ?_); refine with_tabW spec_FitsFormat.tab6 spec_FitsFormat.bits6 (fun HT_ HW_ => ?_)
         generalize wr.drew = w41 at HB hHeld ⊢
         refine pU 0 (some 22) (bm 40 1) HT_ rfl rfl ?_
         refine pU 1 (some 23) (bm 40 3) HT_ rfl rfl ?_
         refine pU 2 (some 24) (bm 40 7) HT_ rfl rfl ?_
         refine one_ (i := 3) (N := some 25) (bm 40 15) rfl rfl (one_of HT_.out (by kernel_rfl)) (by decide) (fun K hK => ?_)
         refine goes_ Try.func43 (by kernel_rfl) rfl #[.slice A0 l0.length c0, .slice A1 l1.length c1, .int .i64 x5_2] (by rfl) rfl rfl zG ?_
         with_reducible refine (spec_IsThere.calls _ _ l0 _ _ l1 x5_2 false _ ?side1 ?side2 ?side3 ?side4 A10.out).mono ?_
         (case side1 => exact cS HR0 HB)
         (case side2 => exact HC0.out)
         (case side3 => exact cS HR1 HB)
         (case side4 => exact HC1.out)
         rintro e w42 ⟨rfl, hb⟩
         refine ⟨_, rfl, ?_⟩
         replace HB := bS HB hb
         (try clear hb)
         (try clear hb2)
         (try clear hk)
         (try clear hi)
         refine hK.out _ _ trivial (fun hHeld => ?_)
         clear hK K
         refine norm_ (a' := ?_) ?_ ?_
         rotate_left
         ·show Act.put _ (some 25) _ = _
          simp only [Act.put, List.setIfInBounds_toArray, List.set_cons_zero, List.set_cons_succ, i64_w, i32_w]
          rfl
         refine pU 4 (some 26) (bm 40 31) HT_ rfl rfl ?_
         refine pV 5 (some 27) (bm 40 63) HT_ rfl rfl ?_
         refine pV 6 (some 28) (bm 40 127) HT_ rfl rfl ?_
         refine pV 7 (some 29) (bm 40 255) HT_ rfl rfl ?_
         refine pV 8 (some 30) (bm 40 511) HT_ rfl rfl ?_
         refine pV 9 (some 31) (bm 40 1023) HT_ rfl rfl ?_
         refine pV 10 (some 32) (bm 40 2047) HT_ rfl rfl ?_
         refine pV 11 (some 33) (bm 40 4095) HT_ rfl rfl ?_
         refine pV 12 (some 34) (bm 40 8191) HT_ rfl rfl ?_
         refine pV 13 (some 35) (bm 40 16383) HT_ rfl rfl ?_
         refine pV 14 (some 36) (bm 40 32767) HT_ rfl rfl ?_
         refine pU 15 (some 37) (bm 40 65535) HT_ rfl rfl ?_
         refine pU 16 (some 38) (bm 40 131071) HT_ rfl rfl ?_
         refine pU 17 (some 39) (bm 40 262143) HT_ rfl rfl ?_
         refine pU 18 (some 40) (bm 40 524287) HT_ rfl rfl ?_
         refine pU 19 (some 41) (bm 40 1048575) HT_ rfl rfl ?_
         refine one_ (i := 20) (N := some 42) (bm 40 2097151) rfl rfl (one_of HT_.out (by kernel_rfl)) (by decide) (fun K hK => ?_)
         refine goes_ Try.func43 (by kernel_rfl) rfl #[.slice A0 l0.length c0, .slice A1 l1.length c1, .int .i64 x5_2] (by rfl) rfl rfl zG ?_
         with_reducible refine (spec_IsThere.calls _ _ l0 _ _ l1 x5_2 true _ ?side1 ?side2 ?side3 ?side4 A39.out).mono ?_
         (case side1 => exact cS HR0 HB)
         (case side2 => exact HC0.out)
         (case side3 => exact cS HR1 HB)
         (case side4 => exact HC1.out)
         rintro e w43 ⟨rfl, hb⟩
         refine ⟨_, rfl, ?_⟩
         replace HB := bS HB hb
         (try clear hb)
         (try clear hb2)
         (try clear hk)
         (try clear hi)
         refine hK.out _ _ trivial (fun hHeld => ?_)
         clear hK K
         refine norm_ (a' := ?_) ?_ ?_
         rotate_left
         ·show Act.put _ (some 42) _ = _
          simp only [Act.put, List.setIfInBounds_toArray, List.set_cons_zero, List.set_cons_succ, i64_w, i32_w]
          rfl
         refine pU 21 (some 43) (bm 40 4194303) HT_ rfl rfl ?_
         refine pU 22 (some 44) (bm 40 8388607) HT_ rfl rfl ?_
         refine pV 23 (some 45) (bm 40 16777215) HT_ rfl rfl ?_
         refine pV 24 (some 46) (bm 40 33554431) HT_ rfl rfl ?_
         refine pV 25 (some 47) (bm 40 67108863) HT_ rfl rfl ?_
         refine pV 26 (some 48) (bm 40 134217727) HT_ rfl rfl ?_
         refine pV 27 (some 49) (bm 40 268435455) HT_ rfl rfl ?_
         refine pV 28 (some 50) (bm 40 536870911) HT_ rfl rfl ?_
         refine pV 29 (some 51) (bm 40 1073741823) HT_ rfl rfl ?_
         refine pV 30 (some 52) (bm 40 2147483647) HT_ rfl rfl ?_
         refine pV 31 (some 53) (bm 40 4294967295) HT_ rfl rfl ?_
         refine pV 32 (some 54) (bm 40 8589934591) HT_ rfl rfl ?_
         refine pV 33 (some 55) (bm 40 17179869183) HT_ rfl rfl ?_
         refine pV 34 (some 56) (bm 40 34359738367) HT_ rfl rfl ?_
         refine pV 35 (some 57) (bm 40 68719476735) HT_ rfl rfl ?_
         refine pV 36 (some 58) (bm 40 137438953471) HT_ rfl rfl ?_
         refine pV 37 (some 59) (bm 40 274877906943) HT_ rfl rfl ?_
         refine pU 38 (some 60) (bm 40 549755813887) HT_ rfl rfl ?_
         refine pU 39 (some 61) (bm 40 1099511627775) HT_ rfl rfl ?_
         refine done_ (done_of HT_.out (by kernel_rfl)) ?_
         try clear hHeld
         try go_wp2
         go_roundg k2
         case measure => have := HJ2.out; have := HK2.out; omega
         case rel => exact ⟨(wrap64 (x5_2 + 1)), zF, H', ⟨by have := HJ2.out; have := HK2.out; omega⟩, ⟨zB HB⟩⟩
        ·replace c40 := Bool.eq_false_iff.mpr c40
         subst c40
         have H1 : (if 0 ≤ x5_2 then (if x5_2 < (l1.length : Int) then (if ((rd_T58 l1 x5_2).f0) = 0 then (if (((rd_T58 l1 x5_2).f1).length : Int) > 0 then (some false) else (spec_FitsFormat.l0 k2 l0 l1 (wrap64 (x5_2 + 1)))) else (some false)) else (none)) else (none)) = some r := by rw [if_neg (show ¬ (false = true) by decide)] at H; exact H
         clear H
         have H := H1
         clear H1
         obtain ⟨c44, H⟩ := ifS H
         have c44b0 : decide (0 ≤ x5_2) = true := decide_eq_true c44
         clear c44
         obtain ⟨c45, H⟩ := ifS H
         have c45b0 : decide (x5_2 < (l1.length : Int)) = true := decide_eq_true c45
         clear c45
         by_cases c46 : ((rd_T58 l1 x5_2).f0) = 0
         ·rw [if_pos c46] at H
          have c46b0 : (((rd_T58 l1 x5_2).f0) == 0) = true := beq_iff_eq.mpr c46
          have c46b1 : (((rd_T58 l1 x5_2).f0) != 0) = false := bne_eq_false_iff_eq.mpr c46
          clear c46
          by_cases c47 : (((rd_T58 l1 x5_2).f1).length : Int) > 0
          ·rw [if_pos c47] at H
           have c47b0 : decide (0 < (((rd_T58 l1 x5_2).f1).length : Int)) = true := decide_eq_true c47
           have c47b1 : decide (0 < ((rd_T58 l1 x5_2).f1).length) = true := decide_eq_true (by omega)
           clear c47
           obtain rfl := Option.some.inj H
           try go_wp2
           replace HB := Aside0.mk (below_drew1 HB.out)
           have p200 : 0 ≤ (x5_2 : Int) := zD
           have q200 : x5_2 < (l1.length : Int) := zD
           obtain ⟨ad200, A200_1, c200_1, e200, hx200_0, hx200_1, hl200_1, hi200_1⟩ := at_T58 HR1.out x5_2 p200 q200
           have hw200_1 := hx200_1
           have hw200_0 := hx200_0
           cases e200
           replace hx200_0 := hL HB hx200_0
           replace hx200_1 := hL HB hx200_1
           have HR200_1 := Aside0.mk hi200_1
           have HC200_1 := Aside0.mk hl200_1
           clear hi200_1 hl200_1
           replace p200 := eq_true p200
           replace q200 := eq_true q200
           have p201 : 0 ≤ (x5_2 : Int) := zD
           have q201 : x5_2 < (l1.length : Int) := zD
           obtain ⟨ad201, A201_1, c201_1, e201, hx201_0, hx201_1, hl201_1, hi201_1⟩ := at_T58 HR1.out x5_2 p201 q201
           have hw201_1 := hx201_1
           have hw201_0 := hx201_0
           obtain rfl : ad200 = ad201 := (by injection e201)
           replace hx201_0 := hL HB hx201_0
           replace hx201_1 := hL HB hx201_1
           have HR201_1 := Aside0.mk hi201_1
           have HC201_1 := Aside0.mk hl201_1
           clear hi201_1 hl201_1
           replace p201 := eq_true p201
           replace q201 := eq_true q201
           have ea_ := Option.some.inj (hx200_1.symm.trans hx201_1)
           injection ea_ with ea_ en_ ec_
           subst ea_
           subst ec_
           clear en_
           refine start_ (n := 40) (S := fun w' => w'.cell? (ad200.add ((x5_2).toNat * 2)) = some (.int .i64 ((rd_T58 l1 x5_2).f0)) ∧ w'.cell? ⟨(ad200.add ((x5_2).toNat * 2)).block, (ad200.add ((x5_2).toNat * 2)).off + 1, none⟩ = some (.slice A200_1 ((rd_T58 l1 x5_2).f1).length c200_1) ∧ w'.cell? (ad200.add ((x5_2).toNat * 2)) = some (.int .i64 ((rd_T58 l1 x5_2).f0)) ∧ w'.cell? ⟨(ad200.add ((x5_2).toNat * 2)).block, (ad200.add ((x5_2).toNat * 2)).off + 1, none⟩ = some (.slice A200_1 ((rd_T58 l1 x5_2).f1).length c200_1)) (ds := []) (bm 40 0) (by kernel_rfl) rfl (bm0 _) ⟨(hL HB hw200_0), (hL HB hw200_1), (hL HB hw201_0), (hL HB hw201_1)⟩ (fun hHeld => ?_); refine with_tabW spec_FitsFormat.tab6 spec_FitsFormat.bits6 (fun HT_ HW_ => ?_)
           generalize wr.drew = w48 at HB HR200_1 HR201_1 hx200_0 hx200_1 hx201_0 hx201_1 hHeld ⊢
           refine pU 0 (some 22) (bm 40 1) HT_ rfl rfl ?_
           refine pU 1 (some 23) (bm 40 3) HT_ rfl rfl ?_
           refine pU 2 (some 24) (bm 40 7) HT_ rfl rfl ?_
           refine one_ (i := 3) (N := some 25) (bm 40 15) rfl rfl (one_of HT_.out (by kernel_rfl)) (by decide) (fun K hK => ?_)
           refine goes_ Try.func43 (by kernel_rfl) rfl #[.slice A0 l0.length c0, .slice (some ad200) l1.length c1, .int .i64 x5_2] (by rfl) rfl rfl zG ?_
           with_reducible refine (spec_IsThere.calls _ _ l0 _ _ l1 x5_2 false _ ?side1 ?side2 ?side3 ?side4 A10.out).mono ?_
           (case side1 => exact cS HR0 HB)
           (case side2 => exact HC0.out)
           (case side3 => exact cS HR1 HB)
           (case side4 => exact HC1.out)
           rintro e w49 ⟨rfl, hb⟩
           refine ⟨_, rfl, ?_⟩
           replace HB := bS HB hb
           (try clear hb)
           (try clear hb2)
           (try clear hk)
           (try clear hi)
           refine hK.out _ _ ⟨(hL HB hw200_0), (hL HB hw200_1), (hL HB hw201_0), (hL HB hw201_1)⟩ (fun hHeld => ?_)
           clear hK K
           refine norm_ (a' := ?_) ?_ ?_
           rotate_left
           ·show Act.put _ (some 25) _ = _
            simp only [Act.put, List.setIfInBounds_toArray, List.set_cons_zero, List.set_cons_succ, i64_w, i32_w]
            rfl
           refine pU 4 (some 26) (bm 40 31) HT_ rfl rfl ?_
           refine pV 5 (some 27) (bm 40 63) HT_ rfl rfl ?_
           refine pV 6 (some 28) (bm 40 127) HT_ rfl rfl ?_
           refine pV 7 (some 29) (bm 40 255) HT_ rfl rfl ?_
           refine pV 8 (some 30) (bm 40 511) HT_ rfl rfl ?_
           refine pV 9 (some 31) (bm 40 1023) HT_ rfl rfl ?_
           refine pV 10 (some 32) (bm 40 2047) HT_ rfl rfl ?_
           refine pV 11 (some 33) (bm 40 4095) HT_ rfl rfl ?_
           refine pV 12 (some 34) (bm 40 8191) HT_ rfl rfl ?_
           refine pV 13 (some 35) (bm 40 16383) HT_ rfl rfl ?_
           refine pV 14 (some 36) (bm 40 32767) HT_ rfl rfl ?_
           refine pU 15 (some 37) (bm 40 65535) HT_ rfl rfl ?_
           refine pU 16 (some 38) (bm 40 131071) HT_ rfl rfl ?_
           refine pU 17 (some 39) (bm 40 262143) HT_ rfl rfl ?_
           refine pU 18 (some 40) (bm 40 524287) HT_ rfl rfl ?_
           refine pU 19 (some 41) (bm 40 1048575) HT_ rfl rfl ?_
           refine one_ (i := 20) (N := some 42) (bm 40 2097151) rfl rfl (one_of HT_.out (by kernel_rfl)) (by decide) (fun K hK => ?_)
           refine goes_ Try.func43 (by kernel_rfl) rfl #[.slice A0 l0.length c0, .slice (some ad200) l1.length c1, .int .i64 x5_2] (by rfl) rfl rfl zG ?_
           with_reducible refine (spec_IsThere.calls _ _ l0 _ _ l1 x5_2 false _ ?side1 ?side2 ?side3 ?side4 A39.out).mono ?_
           (case side1 => exact cS HR0 HB)
           (case side2 => exact HC0.out)
           (case side3 => exact cS HR1 HB)
           (case side4 => exact HC1.out)
           rintro e w50 ⟨rfl, hb⟩
           refine ⟨_, rfl, ?_⟩
           replace HB := bS HB hb
           (try clear hb)
           (try clear hb2)
           (try clear hk)
           (try clear hi)
           refine hK.out _ _ ⟨(hL HB hw200_0), (hL HB hw200_1), (hL HB hw201_0), (hL HB hw201_1)⟩ (fun hHeld => ?_)
           clear hK K
           refine norm_ (a' := ?_) ?_ ?_
           rotate_left
           ·show Act.put _ (some 42) _ = _
            simp only [Act.put, List.setIfInBounds_toArray, List.set_cons_zero, List.set_cons_succ, i64_w, i32_w]
            rfl
           refine pU 21 (some 43) (bm 40 4194303) HT_ rfl rfl ?_
           refine pU 22 (some 44) (bm 40 8388607) HT_ rfl rfl ?_
           refine pU 23 (some 45) (bm 40 16777215) HT_ rfl rfl ?_
           refine pU 24 (some 46) (bm 40 33554431) HT_ rfl rfl ?_
           refine pU 25 (some 47) (bm 40 67108863) HT_ rfl rfl ?_
           refine pU 26 (some 48) (bm 40 134217727) HT_ rfl rfl ?_
           refine tU 27 (some 49) (bm 40 268435455) HT_ HW_ rfl rfl hHeld ?_
           refine pU 28 (some 50) (bm 40 536870911) HT_ rfl rfl ?_
           refine pU 29 (some 51) (bm 40 1073741823) HT_ rfl rfl ?_
           refine pU 30 (some 52) (bm 40 2147483647) HT_ rfl rfl ?_
           refine pU 31 (some 53) (bm 40 4294967295) HT_ rfl rfl ?_
           refine pU 32 (some 54) (bm 40 8589934591) HT_ rfl rfl ?_
           refine pU 33 (some 55) (bm 40 17179869183) HT_ rfl rfl ?_
           refine tU 34 (some 56) (bm 40 34359738367) HT_ HW_ rfl rfl hHeld ?_
           refine pU 35 (some 57) (bm 40 68719476735) HT_ rfl rfl ?_
           refine pU 36 (some 58) (bm 40 137438953471) HT_ rfl rfl ?_
           refine pU 37 (some 59) (bm 40 274877906943) HT_ rfl rfl ?_
           refine pU 38 (some 60) (bm 40 549755813887) HT_ rfl rfl ?_
           refine pU 39 (some 61) (bm 40 1099511627775) HT_ rfl rfl ?_
           refine done_ (done_of HT_.out (by kernel_rfl)) ?_
           try clear hHeld
           try go_wp2
           go_ret
           exact ⟨zE, zB HB⟩
          ·rw [if_neg c47] at H
           have c47b0 : decide (0 < (((rd_T58 l1 x5_2).f1).length : Int)) = false := decide_eq_false c47
           have c47b1 : decide (0 < ((rd_T58 l1 x5_2).f1).length) = false := decide_eq_false (by omega)
           clear c47
           have H' := Aside0.mk H
           clear H
           try go_wp2
           replace HB := Aside0.mk (below_drew1 HB.out)
           have p200 : 0 ≤ (x5_2 : Int) := zD
           have q200 : x5_2 < (l1.length : Int) := zD
           obtain ⟨ad200, A200_1, c200_1, e200, hx200_0, hx200_1, hl200_1, hi200_1⟩ := at_T58 HR1.out x5_2 p200 q200
           have hw200_1 := hx200_1
           have hw200_0 := hx200_0
           cases e200
           replace hx200_0 := hL HB hx200_0
           replace hx200_1 := hL HB hx200_1
           have HR200_1 := Aside0.mk hi200_1
           have HC200_1 := Aside0.mk hl200_1
           clear hi200_1 hl200_1
           replace p200 := eq_true p200
           replace q200 := eq_true q200
           have p201 : 0 ≤ (x5_2 : Int) := zD
           have q201 : x5_2 < (l1.length : Int) := zD
           obtain ⟨ad201, A201_1, c201_1, e201, hx201_0, hx201_1, hl201_1, hi201_1⟩ := at_T58 HR1.out x5_2 p201 q201
           have hw201_1 := hx201_1
           have hw201_0 := hx201_0
           obtain rfl : ad200 = ad201 := (by injection e201)
           replace hx201_0 := hL HB hx201_0
           replace hx201_1 := hL HB hx201_1
           have HR201_1 := Aside0.mk hi201_1
           have HC201_1 := Aside0.mk hl201_1
           clear hi201_1 hl201_1
           replace p201 := eq_true p201
           replace q201 := eq_true q201
           have ea_ := Option.some.inj (hx200_1.symm.trans hx201_1)
           injection ea_ with ea_ en_ ec_
           subst ea_
           subst ec_
           clear en_
           refine start_ (n := 40) (S := fun w' => w'.cell? (ad200.add ((x5_2).toNat * 2)) = some (.int .i64 ((rd_T58 l1 x5_2).f0)) ∧ w'.cell? ⟨(ad200.add ((x5_2).toNat * 2)).block, (ad200.add ((x5_2).toNat * 2)).off + 1, none⟩ = some (.slice A200_1 ((rd_T58 l1 x5_2).f1).length c200_1) ∧ w'.cell? (ad200.add ((x5_2).toNat * 2)) = some (.int .i64 ((rd_T58 l1 x5_2).f0)) ∧ w'.cell? ⟨(ad200.add ((x5_2).toNat * 2)).block, (ad200.add ((x5_2).toNat * 2)).off + 1, none⟩ = some (.slice A200_1 ((rd_T58 l1 x5_2).f1).length c200_1)) (ds := []) (bm 40 0) (by kernel_rfl) rfl (bm0 _) ⟨(hL HB hw200_0), (hL HB hw200_1), (hL HB hw201_0), (hL HB hw201_1)⟩ (fun hHeld => ?_); refine with_tabW spec_FitsFormat.tab6 spec_FitsFormat.bits6 (fun HT_ HW_ => ?_)
           generalize wr.drew = w51 at HB HR200_1 HR201_1 hx200_0 hx200_1 hx201_0 hx201_1 hHeld ⊢
           refine pU 0 (some 22) (bm 40 1) HT_ rfl rfl ?_
           refine pU 1 (some 23) (bm 40 3) HT_ rfl rfl ?_
           refine pU 2 (some 24) (bm 40 7) HT_ rfl rfl ?_
           refine one_ (i := 3) (N := some 25) (bm 40 15) rfl rfl (one_of HT_.out (by kernel_rfl)) (by decide) (fun K hK => ?_)
           refine goes_ Try.func43 (by kernel_rfl) rfl #[.slice A0 l0.length c0, .slice (some ad200) l1.length c1, .int .i64 x5_2] (by rfl) rfl rfl zG ?_
           with_reducible refine (spec_IsThere.calls _ _ l0 _ _ l1 x5_2 false _ ?side1 ?side2 ?side3 ?side4 A10.out).mono ?_
           (case side1 => exact cS HR0 HB)
           (case side2 => exact HC0.out)
           (case side3 => exact cS HR1 HB)
           (case side4 => exact HC1.out)
           rintro e w52 ⟨rfl, hb⟩
           refine ⟨_, rfl, ?_⟩
           replace HB := bS HB hb
           (try clear hb)
           (try clear hb2)
           (try clear hk)
           (try clear hi)
           refine hK.out _ _ ⟨(hL HB hw200_0), (hL HB hw200_1), (hL HB hw201_0), (hL HB hw201_1)⟩ (fun hHeld => ?_)
           clear hK K
           refine norm_ (a' := ?_) ?_ ?_
           rotate_left
           ·show Act.put _ (some 25) _ = _
            simp only [Act.put, List.setIfInBounds_toArray, List.set_cons_zero, List.set_cons_succ, i64_w, i32_w]
            rfl
           refine pU 4 (some 26) (bm 40 31) HT_ rfl rfl ?_
           refine pV 5 (some 27) (bm 40 63) HT_ rfl rfl ?_
           refine pV 6 (some 28) (bm 40 127) HT_ rfl rfl ?_
           refine pV 7 (some 29) (bm 40 255) HT_ rfl rfl ?_
           refine pV 8 (some 30) (bm 40 511) HT_ rfl rfl ?_
           refine pV 9 (some 31) (bm 40 1023) HT_ rfl rfl ?_
           refine pV 10 (some 32) (bm 40 2047) HT_ rfl rfl ?_
           refine pV 11 (some 33) (bm 40 4095) HT_ rfl rfl ?_
           refine pV 12 (some 34) (bm 40 8191) HT_ rfl rfl ?_
           refine pV 13 (some 35) (bm 40 16383) HT_ rfl rfl ?_
           refine pV 14 (some 36) (bm 40 32767) HT_ rfl rfl ?_
           refine pU 15 (some 37) (bm 40 65535) HT_ rfl rfl ?_
           refine pU 16 (some 38) (bm 40 131071) HT_ rfl rfl ?_
           refine pU 17 (some 39) (bm 40 262143) HT_ rfl rfl ?_
           refine pU 18 (some 40) (bm 40 524287) HT_ rfl rfl ?_
           refine pU 19 (some 41) (bm 40 1048575) HT_ rfl rfl ?_
           refine one_ (i := 20) (N := some 42) (bm 40 2097151) rfl rfl (one_of HT_.out (by kernel_rfl)) (by decide) (fun K hK => ?_)
           refine goes_ Try.func43 (by kernel_rfl) rfl #[.slice A0 l0.length c0, .slice (some ad200) l1.length c1, .int .i64 x5_2] (by rfl) rfl rfl zG ?_
           with_reducible refine (spec_IsThere.calls _ _ l0 _ _ l1 x5_2 false _ ?side1 ?side2 ?side3 ?side4 A39.out).mono ?_
           (case side1 => exact cS HR0 HB)
           (case side2 => exact HC0.out)
           (case side3 => exact cS HR1 HB)
           (case side4 => exact HC1.out)
           rintro e w53 ⟨rfl, hb⟩
           refine ⟨_, rfl, ?_⟩
           replace HB := bS HB hb
           (try clear hb)
           (try clear hb2)
           (try clear hk)
           (try clear hi)
           refine hK.out _ _ ⟨(hL HB hw200_0), (hL HB hw200_1), (hL HB hw201_0), (hL HB hw201_1)⟩ (fun hHeld => ?_)
           clear hK K
           refine norm_ (a' := ?_) ?_ ?_
           rotate_left
           ·show Act.put _ (some 42) _ = _
            simp only [Act.put, List.setIfInBounds_toArray, List.set_cons_zero, List.set_cons_succ, i64_w, i32_w]
            rfl
           refine pU 21 (some 43) (bm 40 4194303) HT_ rfl rfl ?_
           refine pU 22 (some 44) (bm 40 8388607) HT_ rfl rfl ?_
           refine pU 23 (some 45) (bm 40 16777215) HT_ rfl rfl ?_
           refine pU 24 (some 46) (bm 40 33554431) HT_ rfl rfl ?_
           refine pU 25 (some 47) (bm 40 67108863) HT_ rfl rfl ?_
           refine pU 26 (some 48) (bm 40 134217727) HT_ rfl rfl ?_
           refine tU 27 (some 49) (bm 40 268435455) HT_ HW_ rfl rfl hHeld ?_
           refine pU 28 (some 50) (bm 40 536870911) HT_ rfl rfl ?_
           refine pU 29 (some 51) (bm 40 1073741823) HT_ rfl rfl ?_
           refine pU 30 (some 52) (bm 40 2147483647) HT_ rfl rfl ?_
           refine pU 31 (some 53) (bm 40 4294967295) HT_ rfl rfl ?_
           refine pU 32 (some 54) (bm 40 8589934591) HT_ rfl rfl ?_
           refine pU 33 (some 55) (bm 40 17179869183) HT_ rfl rfl ?_
           refine tU 34 (some 56) (bm 40 34359738367) HT_ HW_ rfl rfl hHeld ?_
           refine pU 35 (some 57) (bm 40 68719476735) HT_ rfl rfl ?_
           refine pU 36 (some 58) (bm 40 137438953471) HT_ rfl rfl ?_
           refine pU 37 (some 59) (bm 40 274877906943) HT_ rfl rfl ?_
           refine pU 38 (some 60) (bm 40 549755813887) HT_ rfl rfl ?_
           refine pU 39 (some 61) (bm 40 1099511627775) HT_ rfl rfl ?_
           refine done_ (done_of HT_.out (by kernel_rfl)) ?_
           try clear hHeld
           try go_wp2
           go_roundg k2
           case measure => have := HJ2.out; have := HK2.out; omega
           case rel => exact ⟨(wrap64 (x5_2 + 1)), zF, H', ⟨by have := HJ2.out; have := HK2.out; omega⟩, ⟨zB HB⟩⟩
         ·rw [if_neg c46] at H
          have c46b0 : (((rd_T58 l1 x5_2).f0) == 0) = false := beq_eq_false_iff_ne.mpr c46
          have c46b1 : (((rd_T58 l1 x5_2).f0) != 0) = true := bne_iff_ne.mpr c46
          obtain rfl := Option.some.inj H
          try go_wp2
          replace HB := Aside0.mk (below_drew1 HB.out)
          have p200 : 0 ≤ (x5_2 : Int) := zD
          have q200 : x5_2 < (l1.length : Int) := zD
          obtain ⟨ad200, A200_1, c200_1, e200, hx200_0, hx200_1, hl200_1, hi200_1⟩ := at_T58 HR1.out x5_2 p200 q200
          have hw200_1 := hx200_1
          have hw200_0 := hx200_0
          cases e200
          replace hx200_0 := hL HB hx200_0
          replace hx200_1 := hL HB hx200_1
          have HR200_1 := Aside0.mk hi200_1
          have HC200_1 := Aside0.mk hl200_1
          clear hi200_1 hl200_1
          replace p200 := eq_true p200
          replace q200 := eq_true q200
          refine start_ (n := 40) (S := fun w' => w'.cell? (ad200.add ((x5_2).toNat * 2)) = some (.int .i64 ((rd_T58 l1 x5_2).f0)) ∧ w'.cell? ⟨(ad200.add ((x5_2).toNat * 2)).block, (ad200.add ((x5_2).toNat * 2)).off + 1, none⟩ = some (.slice A200_1 ((rd_T58 l1 x5_2).f1).length c200_1)) (ds := []) (bm 40 0) (by kernel_rfl) rfl (bm0 _) ⟨(hL HB hw200_0), (hL HB hw200_1)⟩ (fun hHeld => ?_); refine with_tabW spec_FitsFormat.tab6 spec_FitsFormat.bits6 (fun HT_ HW_ => ?_)
          generalize wr.drew = w54 at HB HR200_1 hx200_0 hx200_1 hHeld ⊢
          refine pU 0 (some 22) (bm 40 1) HT_ rfl rfl ?_
          refine pU 1 (some 23) (bm 40 3) HT_ rfl rfl ?_
          refine pU 2 (some 24) (bm 40 7) HT_ rfl rfl ?_
          refine one_ (i := 3) (N := some 25) (bm 40 15) rfl rfl (one_of HT_.out (by kernel_rfl)) (by decide) (fun K hK => ?_)
          refine goes_ Try.func43 (by kernel_rfl) rfl #[.slice A0 l0.length c0, .slice (some ad200) l1.length c1, .int .i64 x5_2] (by rfl) rfl rfl zG ?_
          with_reducible refine (spec_IsThere.calls _ _ l0 _ _ l1 x5_2 false _ ?side1 ?side2 ?side3 ?side4 A10.out).mono ?_
          (case side1 => exact cS HR0 HB)
          (case side2 => exact HC0.out)
          (case side3 => exact cS HR1 HB)
          (case side4 => exact HC1.out)
          rintro e w55 ⟨rfl, hb⟩
          refine ⟨_, rfl, ?_⟩
          replace HB := bS HB hb
          (try clear hb)
          (try clear hb2)
          (try clear hk)
          (try clear hi)
          refine hK.out _ _ ⟨(hL HB hw200_0), (hL HB hw200_1)⟩ (fun hHeld => ?_)
          clear hK K
          refine norm_ (a' := ?_) ?_ ?_
          rotate_left
          ·show Act.put _ (some 25) _ = _
           simp only [Act.put, List.setIfInBounds_toArray, List.set_cons_zero, List.set_cons_succ, i64_w, i32_w]
           rfl
          refine pU 4 (some 26) (bm 40 31) HT_ rfl rfl ?_
          refine pV 5 (some 27) (bm 40 63) HT_ rfl rfl ?_
          refine pV 6 (some 28) (bm 40 127) HT_ rfl rfl ?_
          refine pV 7 (some 29) (bm 40 255) HT_ rfl rfl ?_
          refine pV 8 (some 30) (bm 40 511) HT_ rfl rfl ?_
          refine pV 9 (some 31) (bm 40 1023) HT_ rfl rfl ?_
          refine pV 10 (some 32) (bm 40 2047) HT_ rfl rfl ?_
          refine pV 11 (some 33) (bm 40 4095) HT_ rfl rfl ?_
          refine pV 12 (some 34) (bm 40 8191) HT_ rfl rfl ?_
          refine pV 13 (some 35) (bm 40 16383) HT_ rfl rfl ?_
          refine pV 14 (some 36) (bm 40 32767) HT_ rfl rfl ?_
          refine pU 15 (some 37) (bm 40 65535) HT_ rfl rfl ?_
          refine pU 16 (some 38) (bm 40 131071) HT_ rfl rfl ?_
          refine pU 17 (some 39) (bm 40 262143) HT_ rfl rfl ?_
          refine pU 18 (some 40) (bm 40 524287) HT_ rfl rfl ?_
          refine pU 19 (some 41) (bm 40 1048575) HT_ rfl rfl ?_
          refine one_ (i := 20) (N := some 42) (bm 40 2097151) rfl rfl (one_of HT_.out (by kernel_rfl)) (by decide) (fun K hK => ?_)
          refine goes_ Try.func43 (by kernel_rfl) rfl #[.slice A0 l0.length c0, .slice (some ad200) l1.length c1, .int .i64 x5_2] (by rfl) rfl rfl zG ?_
          with_reducible refine (spec_IsThere.calls _ _ l0 _ _ l1 x5_2 false _ ?side1 ?side2 ?side3 ?side4 A39.out).mono ?_
          (case side1 => exact cS HR0 HB)
          (case side2 => exact HC0.out)
          (case side3 => exact cS HR1 HB)
          (case side4 => exact HC1.out)
          rintro e w56 ⟨rfl, hb⟩
          refine ⟨_, rfl, ?_⟩
          replace HB := bS HB hb
          (try clear hb)
          (try clear hb2)
          (try clear hk)
          (try clear hi)
          refine hK.out _ _ ⟨(hL HB hw200_0), (hL HB hw200_1)⟩ (fun hHeld => ?_)
          clear hK K
          refine norm_ (a' := ?_) ?_ ?_
          rotate_left
          ·show Act.put _ (some 42) _ = _
           simp only [Act.put, List.setIfInBounds_toArray, List.set_cons_zero, List.set_cons_succ, i64_w, i32_w]
           rfl
          refine pU 21 (some 43) (bm 40 4194303) HT_ rfl rfl ?_
          refine pU 22 (some 44) (bm 40 8388607) HT_ rfl rfl ?_
          refine pU 23 (some 45) (bm 40 16777215) HT_ rfl rfl ?_
          refine pU 24 (some 46) (bm 40 33554431) HT_ rfl rfl ?_
          refine pU 25 (some 47) (bm 40 67108863) HT_ rfl rfl ?_
          refine pU 26 (some 48) (bm 40 134217727) HT_ rfl rfl ?_
          refine tU 27 (some 49) (bm 40 268435455) HT_ HW_ rfl rfl hHeld ?_
          refine pU 28 (some 50) (bm 40 536870911) HT_ rfl rfl ?_
          refine pU 29 (some 51) (bm 40 1073741823) HT_ rfl rfl ?_
          refine pV 30 (some 52) (bm 40 2147483647) HT_ rfl rfl ?_
          refine pV 31 (some 53) (bm 40 4294967295) HT_ rfl rfl ?_
          refine pV 32 (some 54) (bm 40 8589934591) HT_ rfl rfl ?_
          refine pV 33 (some 55) (bm 40 17179869183) HT_ rfl rfl ?_
          refine pV 34 (some 56) (bm 40 34359738367) HT_ rfl rfl ?_
          refine pV 35 (some 57) (bm 40 68719476735) HT_ rfl rfl ?_
          refine pV 36 (some 58) (bm 40 137438953471) HT_ rfl rfl ?_
          refine pU 37 (some 59) (bm 40 274877906943) HT_ rfl rfl ?_
          refine pU 38 (some 60) (bm 40 549755813887) HT_ rfl rfl ?_
          refine pU 39 (some 61) (bm 40 1099511627775) HT_ rfl rfl ?_
          refine done_ (done_of HT_.out (by kernel_rfl)) ?_
          try clear hHeld
          try go_wp2
          go_ret
          exact ⟨zE, zB HB⟩
      ·rw [if_neg c9] at H
       have c9b0 : decide (x5_2 < (l0.length : Int)) = false := decide_eq_false c9
       clear c9
       obtain rfl := Option.some.inj H
       go_wp2
       go_ret
       exact ⟨zE, zB HB⟩

end Go.Proofs.Yticpmgofegaaeaa.PFnExactSkipsTail
