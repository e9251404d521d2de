-- WRITTEN by pp.py, this session's own wrapper around the print; not trusted: Lean checks it
import Derived.Test.YticpmgofegaaeaaPFnExactSkipsTailx0
import Derived.Test.YticpmgofegaaeaaPFnExactSkipsTailx1
import Derived.Test.YticpmgofegaaeaaPFnExactSkipsTailx7
import Derived.Test.YticpmgofegaaeaaPFnExactSkipsTailx13
namespace Go.Proofs.Yticpmgofegaaeaa.PFnExactSkipsTail
open Go.RowKit Go.Proofs.Yticpmgofegaaeaa.Hw Go.Proofs.YticpmgofegaaeaaW.PrintWords Go.Proofs.YticpmgofegaaeaaW.PrintLast Go.Proofs.YticpmgofegaaeaaW.PrintMore
attribute [local go_sem] max2_int min2_int max_two min_two max_three min_three max_four min_four   -- for this text's walks alone
set_option linter.unusedVariables false
set_option linter.unusedSimpArgs false
set_option linter.unusedSectionVars false

/-! ### laws_eqFieldS: function 10 -/
def laws_eqFieldS.l0 : Nat → List (S47) → List (S47) → Int → Option (Bool)
 | 0, _, _, _ => none
 | k + 1, x0, x1, x5 => if x5 < (x0.length : Int) then (if 0 ≤ x5 then (if x5 < (x1.length : Int) then ((laws_eqField.f ((rd_T47 x0 x5).f0) ((rd_T47 x0 x5).f1) ((rd_T47 x0 x5).f2) ((rd_T47 x0 x5).f3) ((rd_T47 x1 x5).f0) ((rd_T47 x1 x5).f1) ((rd_T47 x1 x5).f2) ((rd_T47 x1 x5).f3)).bind fun t423 => (if t423 = true then (laws_eqFieldS.l0 k x0 x1 (wrap64 (x5 + 1))) else (some false))) else (none)) else (none)) else (some true)
def laws_eqFieldS.f (k : Nat) (l0 : List (S47)) (l1 : List (S47)) : Option (Bool) := if (l0.length : Int) = (l1.length : Int) then (laws_eqFieldS.l0 k l0 l1 0) else (some false)
theorem laws_eqFieldS.mono_l : ∀ k, (∀ y0 y1 y2, LeO (laws_eqFieldS.l0 k y0 y1 y2) (laws_eqFieldS.l0 (k + 1) y0 y1 y2))
 | 0 => fun _ _ _ r h => by simp [laws_eqFieldS.l0] at h
 | k + 1 => by
  have ih0 := laws_eqFieldS.mono_l k
  ·intro y0 y1 y2
   unfold laws_eqFieldS.l0
   repeat' first
   | (with_reducible exact ih0 _ _ _)
   | (with_reducible exact LeO.refl _)
   | (with_reducible exact LeO.none _)
   | (with_reducible refine LeO.ite ?_ ?_)
   | (with_reducible refine LeO.bind ?_ (fun _ => ?_))
   | exact ih0 _ _ _
   | exact LeO.none _
   | refine LeO.ite ?_ ?_
   | refine LeO.bind ?_ (fun _ => ?_)
theorem laws_eqFieldS.mono : ∀ a0 a1 k, LeO (laws_eqFieldS.f k a0 a1) (laws_eqFieldS.f (k + 1) a0 a1) := by
 intro a0 a1 k
 have ih0 := laws_eqFieldS.mono_l k
 unfold laws_eqFieldS.f
 repeat' first
   | (with_reducible exact ih0 _ _ _)
   | (with_reducible exact LeO.refl _)
   | (with_reducible exact LeO.none _)
   | (with_reducible refine LeO.ite ?_ ?_)
   | (with_reducible refine LeO.bind ?_ (fun _ => ?_))
   | exact ih0 _ _ _
   | exact LeO.none _
   | refine LeO.ite ?_ ?_
   | refine LeO.bind ?_ (fun _ => ?_)
def laws_eqFieldS.T6 : Bool × List (List Nat × List Nat) := (true, [([], []), ([], []), ([0, 1], [0, 1]), ([2], [2]), ([], []), ([], []), ([4, 5], [4, 5]), ([6], [6]), ([3, 7], [3, 7]), ([8], [8])])
def laws_eqFieldS.B6 : List Nat := [0, 0, 3, 7, 0, 0, 48, 112, 255, 511]
theorem laws_eqFieldS.tab6 : rtab .any (opsOf Try.f10 6) = laws_eqFieldS.T6 := by kernel_rfl
theorem laws_eqFieldS.bits6 : waitsOk laws_eqFieldS.T6.2 laws_eqFieldS.B6 = true := by kernel_rfl
set_option maxHeartbeats 8000000 in
set_option maxRecDepth 100000 in
theorem laws_eqFieldS.calls (k : Nat) (A0 : Option Addr) (c0 : Nat) (l0 : List (S47)) (A1 : Option Addr) (c1 : Nat) (l1 : List (S47)) (r : Bool) (w : World) (hr0 : Kd.C k47 w A0 l0.length l0) (hc0 : l0.length ≤ c0) (hr1 : Kd.C k47 w A1 l1.length l1) (hc1 : l1.length ≤ c1) (h : laws_eqFieldS.f k l0 l1 = some r) :
  Calls Try.prog 10 #[.slice A0 l0.length c0, .slice A1 l1.length c1] w fun e w' => e = .returned (.bool r) ∧ Below w.heap.size w w' := by
 have hu47 := Try.underlying47
 have HR0 := Aside0.mk hr0
 have HC0 := Aside0.mk hc0
 clear hr0 hc0
 have HR1 := Aside0.mk hr1
 have HC1 := Aside0.mk hc1
 clear hr1 hc1
 have HB := Aside0.mk (Below.refl w.heap.size w)
 have H : (if (l0.length : Int) = (l1.length : Int) then (laws_eqFieldS.l0 k l0 l1 0) else (some false)) = some r := h
 clear h
 by_cases c3 : (l0.length : Int) = (l1.length : Int)
 ·rw [if_pos c3] at H
  have c3b0 : ((l0.length : Int) == (l1.length : Int)) = true := beq_iff_eq.mpr c3
  have c3b1 : ((l0.length : Int) != (l1.length : Int)) = false := bne_eq_false_iff_eq.mpr c3
  have c3b2 : (l0.length == l1.length) = true := by first | simpa using c3 | (simp at c3 ⊢; omega)
  clear c3
  have H' := Aside0.mk H
  clear H
  go_enter Try.func10, Try.ntmps10
  go_wp2
  go_loopg [5] k (fun kq v5 w' => ∃ (x5_1 : Int), v5 = .int .i64 x5_1 ∧ Aside0 (laws_eqFieldS.l0 kq l0 l1 x5_1 = some r) ∧ Aside0 (kq ≤ k) ∧ Aside0 (Below w.heap.size w w'))
  case atStart => exact ⟨(0), zF, H', ⟨Nat.le_refl _⟩, ⟨zB HB⟩⟩
  case round =>
   clear H'
   try clear c1
   try clear p2
   try clear c3
   try clear c3b0
   try clear c3b1
   try clear c3b2
   obtain ⟨x5_1, rfl, HA, HK1, HB⟩ := hrel
   cases gk with
   | zero => exact absurd HA.out (by simp [laws_eqFieldS.l0])
   | succ k1 =>
    have H := HA.out
    clear HA
    simp only [laws_eqFieldS.l0] at H
    by_cases c4 : x5_1 < (l0.length : Int)
    ·rw [if_pos c4] at H
     have c4b0 : decide (x5_1 < (l0.length : Int)) = true := decide_eq_true c4
     clear c4
     obtain ⟨c5, H⟩ := ifS H
     have c5b0 : decide (0 ≤ x5_1) = true := decide_eq_true c5
     clear c5
     obtain ⟨c6, H⟩ := ifS H
     have c6b0 : decide (x5_1 < (l1.length : Int)) = true := decide_eq_true c6
     clear c6
     obtain ⟨t423, A7, H⟩ := bindS H
     by_cases c8 : t423 = true
     ·subst c8
      have H1 : (laws_eqFieldS.l0 k1 l0 l1 (wrap64 (x5_1 + 1))) = some r := by rw [if_pos rfl] at H; exact H
      clear H
      have H := H1
      clear H1
      have H' := Aside0.mk H
      clear H
      try go_wp2
      replace HB := Aside0.mk (below_drew1 HB.out)
      have p421 : 0 ≤ (x5_1 : Int) := zD
      have q421 : x5_1 < (l0.length : Int) := zD
      obtain ⟨ad421, e421, hx421_0, hx421_1, hx421_2, hx421_3⟩ := at_T47 HR0.out x5_1 p421 q421
      have hw421_3 := hx421_3
      have hw421_2 := hx421_2
      have hw421_1 := hx421_1
      have hw421_0 := hx421_0
      cases e421
      replace hx421_0 := hL HB hx421_0
      replace hx421_1 := hL HB hx421_1
      replace hx421_2 := hL HB hx421_2
      replace hx421_3 := hL HB hx421_3
      replace p421 := eq_true p421
      replace q421 := eq_true q421
      have p422 : 0 ≤ (x5_1 : Int) := zD
      have q422 : x5_1 < (l1.length : Int) := zD
      obtain ⟨ad422, e422, hx422_0, hx422_1, hx422_2, hx422_3⟩ := at_T47 HR1.out x5_1 p422 q422
      have hw422_3 := hx422_3
      have hw422_2 := hx422_2
      have hw422_1 := hx422_1
      have hw422_0 := hx422_0
      cases e422
      replace hx422_0 := hL HB hx422_0
      replace hx422_1 := hL HB hx422_1
      replace hx422_2 := hL HB hx422_2
      replace hx422_3 := hL HB hx422_3
      replace p422 := eq_true p422
      replace q422 := eq_true q422
      refine start_ (n := 10) (S := fun w' => w'.cell? (ad421.add ((x5_1).toNat * 4)) = some (.int .i64 ((rd_T47 l0 x5_1).f0)) ∧ w'.cell? ⟨(ad421.add ((x5_1).toNat * 4)).block, (ad421.add ((x5_1).toNat * 4)).off + 1, none⟩ = some (.int .i64 ((rd_T47 l0 x5_1).f1)) ∧ w'.cell? ⟨(ad421.add ((x5_1).toNat * 4)).block, (ad421.add ((x5_1).toNat * 4)).off + 2, none⟩ = some (.int .i64 ((rd_T47 l0 x5_1).f2)) ∧ w'.cell? ⟨(ad421.add ((x5_1).toNat * 4)).block, (ad421.add ((x5_1).toNat * 4)).off + 3, none⟩ = some (.int .i64 ((rd_T47 l0 x5_1).f3)) ∧ w'.cell? (ad422.add ((x5_1).toNat * 4)) = some (.int .i64 ((rd_T47 l1 x5_1).f0)) ∧ w'.cell? ⟨(ad422.add ((x5_1).toNat * 4)).block, (ad422.add ((x5_1).toNat * 4)).off + 1, none⟩ = some (.int .i64 ((rd_T47 l1 x5_1).f1)) ∧ w'.cell? ⟨(ad422.add ((x5_1).toNat * 4)).block, (ad422.add ((x5_1).toNat * 4)).off + 2, none⟩ = some (.int .i64 ((rd_T47 l1 x5_1).f2)) ∧ w'.cell? ⟨(ad422.add ((x5_1).toNat * 4)).block, (ad422.add ((x5_1).toNat * 4)).off + 3, none⟩ = some (.int .i64 ((rd_T47 l1 x5_1).f3))) (ds := []) (bm 10 0) (by kernel_rfl) rfl (bm0 _) ⟨(hL HB hw421_0), (hL HB hw421_1), (hL HB hw421_2), (hL HB hw421_3), (hL HB hw422_0), (hL HB hw422_1), (hL HB hw422_2), (hL HB hw422_3)⟩ (fun hHeld => ?_); refine with_tabW laws_eqFieldS.tab6 laws_eqFieldS.bits6 (fun HT_ HW_ => ?_)
      generalize wr.drew = w9 at HB hx421_0 hx421_1 hx421_2 hx421_3 hx422_0 hx422_1 hx422_2 hx422_3 hHeld ⊢
      refine pU 0 (some 17) (bm 10 1) HT_ rfl rfl ?_
      refine pU 1 (some 18) (bm 10 3) HT_ rfl rfl ?_
      refine pU 2 (some 19) (bm 10 7) HT_ rfl rfl ?_
      refine pU 4 (some 21) (bm 10 23) HT_ rfl rfl ?_
      refine pU 5 (some 22) (bm 10 55) HT_ rfl rfl ?_
      refine pU 6 (some 23) (bm 10 119) HT_ rfl rfl ?_
      refine tU 3 (some 20) (bm 10 127) HT_ HW_ rfl rfl hHeld ?_
      refine tU 7 (some 24) (bm 10 255) HT_ HW_ rfl rfl hHeld ?_
      refine one_ (i := 8) (N := some 25) (bm 10 511) rfl rfl (one_of HT_.out (by kernel_rfl)) (by decide) (fun K hK => ?_)
      refine goes_ Try.func30 (by kernel_rfl) rfl #[.agg #[.int .i64 ((rd_T47 l0 x5_1).f0), .int .i64 ((rd_T47 l0 x5_1).f1), .int .i64 ((rd_T47 l0 x5_1).f2), .int .i64 ((rd_T47 l0 x5_1).f3)], .agg #[.int .i64 ((rd_T47 l1 x5_1).f0), .int .i64 ((rd_T47 l1 x5_1).f1), .int .i64 ((rd_T47 l1 x5_1).f2), .int .i64 ((rd_T47 l1 x5_1).f3)]] (by rfl) rfl rfl zG ?_
      with_reducible refine (laws_eqField.calls ((rd_T47 l0 x5_1).f0) ((rd_T47 l0 x5_1).f1) ((rd_T47 l0 x5_1).f2) ((rd_T47 l0 x5_1).f3) ((rd_T47 l1 x5_1).f0) ((rd_T47 l1 x5_1).f1) ((rd_T47 l1 x5_1).f2) ((rd_T47 l1 x5_1).f3) true _ A7.out).mono ?_
      rintro e w10 ⟨rfl, hb⟩
      refine ⟨_, rfl, ?_⟩
      replace HB := bS HB hb
      (try clear hb)
      (try clear hb2)
      (try clear hk)
      (try clear hi)
      refine hK.out _ _ ⟨(hL HB hw421_0), (hL HB hw421_1), (hL HB hw421_2), (hL HB hw421_3), (hL HB hw422_0), (hL HB hw422_1), (hL HB hw422_2), (hL HB hw422_3)⟩ (fun hHeld => ?_)
      clear hK K
      refine norm_ (a' := ?_) ?_ ?_
      rotate_left
      ·show Act.put _ (some 25) _ = _
       simp only [Act.put, List.setIfInBounds_toArray, List.set_cons_zero, List.set_cons_succ, i64_w, i32_w]
       rfl
      refine pU 9 (some 26) (bm 10 1023) HT_ rfl rfl ?_
      refine done_ (done_of HT_.out (by kernel_rfl)) ?_
      try clear hHeld
      try go_wp2
      go_roundg k1
      case measure => have := HK1.out; omega
      case rel => exact ⟨(wrap64 (x5_1 + 1)), zF, H', ⟨by have := HK1.out; omega⟩, ⟨zB HB⟩⟩
     ·replace c8 := Bool.eq_false_iff.mpr c8
      subst c8
      have H1 : (some false) = some r := by rw [if_neg (show ¬ (false = true) by decide)] at H; exact H
      clear H
      have H := H1
      clear H1
      obtain rfl := Option.some.inj H
      try go_wp2
      replace HB := Aside0.mk (below_drew1 HB.out)
      have p421 : 0 ≤ (x5_1 : Int) := zD
      have q421 : x5_1 < (l0.length : Int) := zD
      obtain ⟨ad421, e421, hx421_0, hx421_1, hx421_2, hx421_3⟩ := at_T47 HR0.out x5_1 p421 q421
      have hw421_3 := hx421_3
      have hw421_2 := hx421_2
      have hw421_1 := hx421_1
      have hw421_0 := hx421_0
      cases e421
      replace hx421_0 := hL HB hx421_0
      replace hx421_1 := hL HB hx421_1
      replace hx421_2 := hL HB hx421_2
      replace hx421_3 := hL HB hx421_3
      replace p421 := eq_true p421
      replace q421 := eq_true q421
      have p422 : 0 ≤ (x5_1 : Int) := zD
      have q422 : x5_1 < (l1.length : Int) := zD
      obtain ⟨ad422, e422, hx422_0, hx422_1, hx422_2, hx422_3⟩ := at_T47 HR1.out x5_1 p422 q422
      have hw422_3 := hx422_3
      have hw422_2 := hx422_2
      have hw422_1 := hx422_1
      have hw422_0 := hx422_0
      cases e422
      replace hx422_0 := hL HB hx422_0
      replace hx422_1 := hL HB hx422_1
      replace hx422_2 := hL HB hx422_2
      replace hx422_3 := hL HB hx422_3
      replace p422 := eq_true p422
      replace q422 := eq_true q422
      refine start_ (n := 10) (S := fun w' => w'.cell? (ad421.add ((x5_1).toNat * 4)) = some (.int .i64 ((rd_T47 l0 x5_1).f0)) ∧ w'.cell? ⟨(ad421.add ((x5_1).toNat * 4)).block, (ad421.add ((x5_1).toNat * 4)).off + 1, none⟩ = some (.int .i64 ((rd_T47 l0 x5_1).f1)) ∧ w'.cell? ⟨(ad421.add ((x5_1).toNat * 4)).block, (ad421.add ((x5_1).toNat * 4)).off + 2, none⟩ = some (.int .i64 ((rd_T47 l0 x5_1).f2)) ∧ w'.cell? ⟨(ad421.add ((x5_1).toNat * 4)).block, (ad421.add ((x5_1).toNat * 4)).off + 3, none⟩ = some (.int .i64 ((rd_T47 l0 x5_1).f3)) ∧ w'.cell? (ad422.add ((x5_1).toNat * 4)) = some (.int .i64 ((rd_T47 l1 x5_1).f0)) ∧ w'.cell? ⟨(ad422.add ((x5_1).toNat * 4)).block, (ad422.add ((x5_1).toNat * 4)).off + 1, none⟩ = some (.int .i64 ((rd_T47 l1 x5_1).f1)) ∧ w'.cell? ⟨(ad422.add ((x5_1).toNat * 4)).block, (ad422.add ((x5_1).toNat * 4)).off + 2, none⟩ = some (.int .i64 ((rd_T47 l1 x5_1).f2)) ∧ w'.cell? ⟨(ad422.add ((x5_1).toNat * 4)).block, (ad422.add ((x5_1).toNat * 4)).off + 3, none⟩ = some (.int .i64 ((rd_T47 l1 x5_1).f3))) (ds := []) (bm 10 0) (by kernel_rfl) rfl (bm0 _) ⟨(hL HB hw421_0), (hL HB hw421_1), (hL HB hw421_2), (hL HB hw421_3), (hL HB hw422_0), (hL HB hw422_1), (hL HB hw422_2), (hL HB hw422_3)⟩ (fun hHeld => ?_); refine with_tabW laws_eqFieldS.tab6 laws_eqFieldS.bits6 (fun HT_ HW_ => ?_)
      generalize wr.drew = w11 at HB hx421_0 hx421_1 hx421_2 hx421_3 hx422_0 hx422_1 hx422_2 hx422_3 hHeld ⊢
      refine pU 0 (some 17) (bm 10 1) HT_ rfl rfl ?_
      refine pU 1 (some 18) (bm 10 3) HT_ rfl rfl ?_
      refine pU 2 (some 19) (bm 10 7) HT_ rfl rfl ?_
      refine pU 4 (some 21) (bm 10 23) HT_ rfl rfl ?_
      refine pU 5 (some 22) (bm 10 55) HT_ rfl rfl ?_
      refine pU 6 (some 23) (bm 10 119) HT_ rfl rfl ?_
      refine tU 3 (some 20) (bm 10 127) HT_ HW_ rfl rfl hHeld ?_
      refine tU 7 (some 24) (bm 10 255) HT_ HW_ rfl rfl hHeld ?_
      refine one_ (i := 8) (N := some 25) (bm 10 511) rfl rfl (one_of HT_.out (by kernel_rfl)) (by decide) (fun K hK => ?_)
      refine goes_ Try.func30 (by kernel_rfl) rfl #[.agg #[.int .i64 ((rd_T47 l0 x5_1).f0), .int .i64 ((rd_T47 l0 x5_1).f1), .int .i64 ((rd_T47 l0 x5_1).f2), .int .i64 ((rd_T47 l0 x5_1).f3)], .agg #[.int .i64 ((rd_T47 l1 x5_1).f0), .int .i64 ((rd_T47 l1 x5_1).f1), .int .i64 ((rd_T47 l1 x5_1).f2), .int .i64 ((rd_T47 l1 x5_1).f3)]] (by rfl) rfl rfl zG ?_
      with_reducible refine (laws_eqField.calls ((rd_T47 l0 x5_1).f0) ((rd_T47 l0 x5_1).f1) ((rd_T47 l0 x5_1).f2) ((rd_T47 l0 x5_1).f3) ((rd_T47 l1 x5_1).f0) ((rd_T47 l1 x5_1).f1) ((rd_T47 l1 x5_1).f2) ((rd_T47 l1 x5_1).f3) false _ A7.out).mono ?_
      rintro e w12 ⟨rfl, hb⟩
      refine ⟨_, rfl, ?_⟩
      replace HB := bS HB hb
      (try clear hb)
      (try clear hb2)
      (try clear hk)
      (try clear hi)
      refine hK.out _ _ ⟨(hL HB hw421_0), (hL HB hw421_1), (hL HB hw421_2), (hL HB hw421_3), (hL HB hw422_0), (hL HB hw422_1), (hL HB hw422_2), (hL HB hw422_3)⟩ (fun hHeld => ?_)
      clear hK K
      refine norm_ (a' := ?_) ?_ ?_
      rotate_left
      ·show Act.put _ (some 25) _ = _
       simp only [Act.put, List.setIfInBounds_toArray, List.set_cons_zero, List.set_cons_succ, i64_w, i32_w]
       rfl
      refine pU 9 (some 26) (bm 10 1023) HT_ rfl rfl ?_
      refine done_ (done_of HT_.out (by kernel_rfl)) ?_
      try clear hHeld
      try go_wp2
      go_ret
      exact ⟨zE, zB HB⟩
    ·rw [if_neg c4] at H
     have c4b0 : decide (x5_1 < (l0.length : Int)) = false := decide_eq_false c4
     clear c4
     obtain rfl := Option.some.inj H
     go_wp2
     go_ret
     exact ⟨zE, zB HB⟩
 ·rw [if_neg c3] at H
  have c3b0 : ((l0.length : Int) == (l1.length : Int)) = false := beq_eq_false_iff_ne.mpr c3
  have c3b1 : ((l0.length : Int) != (l1.length : Int)) = true := bne_iff_ne.mpr c3
  have c3b2 : (l0.length == l1.length) = false := by first | simpa using c3 | (simp at c3 ⊢; omega)
  obtain rfl := Option.some.inj H
  go_enter Try.func10, Try.ntmps10
  go_wp2
  go_ret
  exact ⟨zE, zB HB⟩

/-! ### laws_FnExactSkipsTail: function 3 -/
def laws_FnExactSkipsTail.f (k : Nat) (l0 : List (S49)) (l1 : List (S49)) (a2 : Int) : Option (Bool) := (laws_szFieldS.f l0 1048576).bind fun t424 => (if t424 < 0 then (some true) else ((laws_szFieldS.f l1 t424).bind fun t425 => (if t425 < 0 then (some true) else ((laws_toFieldS.f k l0).bind fun t426 => ((laws_toFieldS.f k l1).bind fun t429 => ((spec_SkipsTail.f k t426 t429 a2).bind fun t432 => ((laws_toFieldS.f k l0).bind fun t433 => ((laws_toFieldS.f k l1).bind fun t436 => ((impl_SkipsTail.f k t433 t436 a2).bind fun t439 => (if (t439 != t432) = true then (some false) else ((laws_toFieldS.f k l0).bind fun t440 => ((laws_eqFieldS.f k t433 t440).bind fun t443 => (if t443 = true then ((laws_toFieldS.f k l1).bind fun t444 => ((laws_eqFieldS.f k t436 t444).bind fun t447 => (if t447 = true then (some true) else (some false)))) else (some false))))))))))))))
theorem laws_FnExactSkipsTail.mono : ∀ a0 a1 a2 k, LeO (laws_FnExactSkipsTail.f k a0 a1 a2) (laws_FnExactSkipsTail.f (k + 1) a0 a1 a2) := by
 intro a0 a1 a2 k
 unfold laws_FnExactSkipsTail.f
 repeat' first
   | (with_reducible exact impl_SkipsTail.mono _ _ _ _)
   | (with_reducible exact laws_eqFieldS.mono _ _ _)
   | (with_reducible exact laws_toFieldS.mono _ _)
   | (with_reducible exact spec_SkipsTail.mono _ _ _ _)
   | (with_reducible exact LeO.refl _)
   | (with_reducible exact LeO.none _)
   | (with_reducible refine LeO.ite ?_ ?_)
   | (with_reducible refine LeO.bind ?_ (fun _ => ?_))
   | exact impl_SkipsTail.mono _ _ _ _
   | exact laws_eqFieldS.mono _ _ _
   | exact laws_toFieldS.mono _ _
   | exact spec_SkipsTail.mono _ _ _ _
   | exact LeO.none _
   | refine LeO.ite ?_ ?_
   | refine LeO.bind ?_ (fun _ => ?_)
set_option maxHeartbeats 8000000 in
set_option maxRecDepth 100000 in
theorem laws_FnExactSkipsTail.calls (k : Nat) (A0 : Option Addr) (c0 : Nat) (l0 : List (S49)) (A1 : Option Addr) (c1 : Nat) (l1 : List (S49)) (a2 : Int) (r : Bool) (w : World) (hr0 : Kd.C k49 w A0 l0.length l0) (hc0 : l0.length ≤ c0) (hr1 : Kd.C k49 w A1 l1.length l1) (hc1 : l1.length ≤ c1) (h : laws_FnExactSkipsTail.f k l0 l1 a2 = some r) :
  Calls Try.prog 3 #[.slice A0 l0.length c0, .slice A1 l1.length c1, .int .i64 a2] w fun e w' => e = .returned (.bool r) ∧ Below w.heap.size w w' := by
 have HR0 := Aside0.mk hr0
 have HC0 := Aside0.mk hc0
 clear hr0 hc0
 have HR1 := Aside0.mk hr1
 have HC1 := Aside0.mk hc1
 clear hr1 hc1
 have HB := Aside0.mk (Below.refl w.heap.size w)
 have H : ((laws_szFieldS.f l0 1048576).bind fun t424 => (if t424 < 0 then (some true) else ((laws_szFieldS.f l1 t424).bind fun t425 => (if t425 < 0 then (some true) else ((laws_toFieldS.f k l0).bind fun t426 => ((laws_toFieldS.f k l1).bind fun t429 => ((spec_SkipsTail.f k t426 t429 a2).bind fun t432 => ((laws_toFieldS.f k l0).bind fun t433 => ((laws_toFieldS.f k l1).bind fun t436 => ((impl_SkipsTail.f k t433 t436 a2).bind fun t439 => (if (t439 != t432) = true then (some false) else ((laws_toFieldS.f k l0).bind fun t440 => ((laws_eqFieldS.f k t433 t440).bind fun t443 => (if t443 = true then ((laws_toFieldS.f k l1).bind fun t444 => ((laws_eqFieldS.f k t436 t444).bind fun t447 => (if t447 = true then (some true) else (some false)))) else (some false))))))))))))))) = some r := h
 clear h
 obtain ⟨t424, A4, H⟩ := bindS H
 by_cases c5 : t424 < 0
 ·rw [if_pos c5] at H
  have c5b0 : decide (t424 < 0) = true := decide_eq_true c5
  clear c5
  obtain rfl := Option.some.inj H
  go_enter Try.func3, Try.ntmps3
  go_wp2_with (first | ((with_reducible refine gate_callee (f := 6) rfl ?_); refine goesL_ (some 14) rfl rfl Try.func6 (by kernel_rfl) rfl #[.slice A0 l0.length c0, .int .i64 1048576] rfl zG ?_; (with_reducible refine (laws_szFieldS.calls _ _ l0 1048576 t424 _ ?side1 ?side2 A4.out).mono ?_); (case side1 => exact cT HR0); (case side2 => exact HC0.out); rintro e w' ⟨rfl, ⟨nd, rfl⟩⟩; refine ⟨_, rfl, ?_⟩))
  go_ret
  exact ⟨zE, zB HB⟩
 ·rw [if_neg c5] at H
  have c5b0 : decide (t424 < 0) = false := decide_eq_false c5
  clear c5
  obtain ⟨t425, A6, H⟩ := bindS H
  by_cases c7 : t425 < 0
  ·rw [if_pos c7] at H
   have c7b0 : decide (t425 < 0) = true := decide_eq_true c7
   clear c7
   obtain rfl := Option.some.inj H
   go_enter Try.func3, Try.ntmps3
   go_wp2_with (first | ((with_reducible refine gate_callee (f := 6) rfl ?_); refine goesL_ (some 14) rfl rfl Try.func6 (by kernel_rfl) rfl #[.slice A0 l0.length c0, .int .i64 1048576] rfl zG ?_; (with_reducible refine (laws_szFieldS.calls _ _ l0 1048576 t424 _ ?side1 ?side2 A4.out).mono ?_); (case side1 => exact cT HR0); (case side2 => exact HC0.out); rintro e w' ⟨rfl, ⟨nd, rfl⟩⟩; refine ⟨_, rfl, ?_⟩) | ((with_reducible refine gate_callee (f := 6) rfl ?_); refine goesL_ (some 19) rfl rfl Try.func6 (by kernel_rfl) rfl #[.slice A1 l1.length c1, .int .i64 t424] rfl zG ?_; (with_reducible refine (laws_szFieldS.calls _ _ l1 t424 t425 _ ?side1 ?side2 A6.out).mono ?_); (case side1 => exact cT HR1); (case side2 => exact HC1.out); rintro e w' ⟨rfl, ⟨nd, rfl⟩⟩; refine ⟨_, rfl, ?_⟩))
   go_ret
   exact ⟨zE, zB HB⟩
  ·rw [if_neg c7] at H
   have c7b0 : decide (t425 < 0) = false := decide_eq_false c7
   clear c7
   obtain ⟨t426, A8, H⟩ := bindS H
   obtain ⟨t429, A9, H⟩ := bindS H
   obtain ⟨t432, A10, H⟩ := bindS H
   obtain ⟨t433, A11, H⟩ := bindS H
   obtain ⟨t436, A12, H⟩ := bindS H
   obtain ⟨t439, A13, H⟩ := bindS H
   by_cases c14 : (t439 != t432) = true
   ·rw [if_pos c14] at H
    have c14b0 : (t439 != t432) = true := c14
    (try (have c14b1 : decide (t439 = t432) = false := by simpa using c14))
    (try (have c14b2 : (t439 == t432) = false := by simpa using c14))
    (try (have c14b3 : ¬ (t439 = t432) := by simpa using c14))
    clear c14
    obtain rfl := Option.some.inj H
    go_enter Try.func3, Try.ntmps3
    go_wp2_with (first | ((with_reducible refine gate_callee (f := 6) rfl ?_); refine goesL_ (some 14) rfl rfl Try.func6 (by kernel_rfl) rfl #[.slice A0 l0.length c0, .int .i64 1048576] rfl zG ?_; (with_reducible refine (laws_szFieldS.calls _ _ l0 1048576 t424 _ ?side1 ?side2 A4.out).mono ?_); (case side1 => exact cT HR0); (case side2 => exact HC0.out); rintro e w' ⟨rfl, ⟨nd, rfl⟩⟩; refine ⟨_, rfl, ?_⟩) | ((with_reducible refine gate_callee (f := 6) rfl ?_); refine goesL_ (some 19) rfl rfl Try.func6 (by kernel_rfl) rfl #[.slice A1 l1.length c1, .int .i64 t424] rfl zG ?_; (with_reducible refine (laws_szFieldS.calls _ _ l1 t424 t425 _ ?side1 ?side2 A6.out).mono ?_); (case side1 => exact cT HR1); (case side2 => exact HC1.out); rintro e w' ⟨rfl, ⟨nd, rfl⟩⟩; refine ⟨_, rfl, ?_⟩) | ((with_reducible refine gate_callee (f := 8) rfl ?_); refine goesL_ (some 23) rfl rfl Try.func8 (by kernel_rfl) rfl #[.slice A0 l0.length c0] rfl zG ?_; (with_reducible refine (laws_toFieldS.calls k _ _ l0 t426 _ ?side1 ?side2 A8.out).mono ?_); (case side1 => exact cT HR0); (case side2 => exact HC0.out); rintro e w15 ⟨v427, rfl, ho0, hb⟩; refine ⟨_, rfl, ?_⟩; have HO428 := Aside0.mk (Kd.R_lower ho0 (below_size (zB HB))); replace HB := bS HB hb; (try clear hb); (try clear ho0)) | ((with_reducible refine gate_callee (f := 8) rfl ?_); refine goesL_ (some 25) rfl rfl Try.func8 (by kernel_rfl) rfl #[.slice A1 l1.length c1] rfl zG ?_; (with_reducible refine (laws_toFieldS.calls k _ _ l1 t429 _ ?side1 ?side2 A9.out).mono ?_); (case side1 => exact cS HR1 HB); (case side2 => exact HC1.out); rintro e w16 ⟨v430, rfl, ho0, hb⟩; refine ⟨_, rfl, ?_⟩; have HO431 := Aside0.mk (Kd.R_lower (Kd.R_new' ho0 (Kd.R_lt (zR HO428))) (below_size (zB HB))); replace HO428 := Aside0.mk (Kd.R_elder' (zR HO428) (Kd.R_base ho0) hb); replace HB := bS HB hb; (try clear hb); (try clear ho0); obtain ⟨Ao17, co17, eo17⟩ := Kd.R_slice HO428.out; subst eo17; obtain ⟨Ao18, co18, eo18⟩ := Kd.R_slice HO431.out; subst eo18) | ((with_reducible refine gate_callee (f := 7) rfl ?_); refine goesL_ (some 27) rfl rfl Try.func7 (by kernel_rfl) rfl #[.slice Ao17 t426.length co17, .slice Ao18 t429.length co18, .int .i64 a2] rfl zG ?_; (with_reducible refine (spec_SkipsTail.calls k _ _ t426 _ _ t429 a2 t432 _ ?side1 ?side2 ?side3 ?side4 A10.out).mono ?_); (case side1 => repeat (first | exact (Kd.R_reads' HO428.out).2.2 | (with_reducible refine Kd.C_alloc ?_ _) | (with_reducible refine Kd.C_drewN ?_ _) | (with_reducible refine Kd.C_drew ?_))); (case side2 => exact (Kd.R_reads' HO428.out).2.1); (case side3 => repeat (first | exact (Kd.R_reads' HO431.out).2.2 | (with_reducible refine Kd.C_alloc ?_ _) | (with_reducible refine Kd.C_drewN ?_ _) | (with_reducible refine Kd.C_drew ?_))); (case side4 => exact (Kd.R_reads' HO431.out).2.1); rintro e w19 ⟨rfl, hb⟩; refine ⟨_, rfl, ?_⟩; replace HO428 := Aside0.mk (Kd.R_below (zR HO428) hb); replace HO431 := Aside0.mk (Kd.R_below (zR HO431) hb); replace HB := bS HB hb; (try clear hb)) | ((with_reducible refine gate_callee (f := 8) rfl ?_); refine goesL_ (some 29) rfl rfl Try.func8 (by kernel_rfl) rfl #[.slice A0 l0.length c0] rfl zG ?_; (with_reducible refine (laws_toFieldS.calls k _ _ l0 t433 _ ?side1 ?side2 A11.out).mono ?_); (case side1 => exact cS HR0 HB); (case side2 => exact HC0.out); rintro e w20 ⟨v434, rfl, ho0, hb⟩; refine ⟨_, rfl, ?_⟩; have HO435 := Aside0.mk (Kd.R_lower (Kd.R_new' (Kd.R_new' ho0 (Kd.R_lt (zR HO428))) (Kd.R_lt (zR HO431))) (below_size (zB HB))); replace HO428 := Aside0.mk (Kd.R_elder' (zR HO428) (Kd.R_base ho0) hb); replace HO431 := Aside0.mk (Kd.R_elder' (zR HO431) (Kd.R_base ho0) hb); replace HB := bS HB hb; (try clear hb); (try clear ho0)) | ((with_reducible refine gate_callee (f := 8) rfl ?_); refine goesL_ (some 31) rfl rfl Try.func8 (by kernel_rfl) rfl #[.slice A1 l1.length c1] rfl zG ?_; (with_reducible refine (laws_toFieldS.calls k _ _ l1 t436 _ ?side1 ?side2 A12.out).mono ?_); (case side1 => exact cS HR1 HB); (case side2 => exact HC1.out); rintro e w21 ⟨v437, rfl, ho0, hb⟩; refine ⟨_, rfl, ?_⟩; have HO438 := Aside0.mk (Kd.R_lower (Kd.R_new' (Kd.R_new' (Kd.R_new' ho0 (Kd.R_lt (zR HO428))) (Kd.R_lt (zR HO431))) (Kd.R_lt (zR HO435))) (below_size (zB HB))); replace HO428 := Aside0.mk (Kd.R_elder' (zR HO428) (Kd.R_base ho0) hb); replace HO431 := Aside0.mk (Kd.R_elder' (zR HO431) (Kd.R_base ho0) hb); replace HO435 := Aside0.mk (Kd.R_elder' (zR HO435) (Kd.R_base ho0) hb); replace HB := bS HB hb; (try clear hb); (try clear ho0); obtain ⟨Ao22, co22, eo22⟩ := Kd.R_slice HO435.out; subst eo22; obtain ⟨Ao23, co23, eo23⟩ := Kd.R_slice HO438.out; subst eo23) | ((with_reducible refine gate_callee (f := 9) rfl ?_); refine goesL_ (some 35) rfl rfl Try.func9 (by kernel_rfl) rfl #[.slice Ao22 t433.length co22, .slice Ao23 t436.length co23, .int .i64 a2] rfl zG ?_; (with_reducible refine (impl_SkipsTail.calls k _ _ t433 _ _ t436 a2 t439 _ ?side1 ?side2 ?side3 ?side4 A13.out).mono ?_); (case side1 => repeat (first | exact (Kd.R_reads' HO435.out).2.2 | (with_reducible refine Kd.C_alloc ?_ _) | (with_reducible refine Kd.C_drewN ?_ _) | (with_reducible refine Kd.C_drew ?_))); (case side2 => exact (Kd.R_reads' HO435.out).2.1); (case side3 => repeat (first | exact (Kd.R_reads' HO438.out).2.2 | (with_reducible refine Kd.C_alloc ?_ _) | (with_reducible refine Kd.C_drewN ?_ _) | (with_reducible refine Kd.C_drew ?_))); (case side4 => exact (Kd.R_reads' HO438.out).2.1); rintro e w24 ⟨rfl, hb⟩; refine ⟨_, rfl, ?_⟩; replace HO428 := Aside0.mk (Kd.R_below (zR HO428) hb); replace HO431 := Aside0.mk (Kd.R_below (zR HO431) hb); replace HO435 := Aside0.mk (Kd.R_below (zR HO435) hb); replace HO438 := Aside0.mk (Kd.R_below (zR HO438) hb); replace HB := bS HB hb; (try clear hb)))
    go_ret
    exact ⟨zE, zB HB⟩
   ·rw [if_neg c14] at H
    have c14b0 : (t439 != t432) = false := by simpa using c14
    (try (have c14b1 : decide (t439 = t432) = true := by simpa using c14))
    (try (have c14b2 : (t439 == t432) = true := by simpa using c14))
    clear c14
    obtain ⟨t440, A25, H⟩ := bindS H
    obtain ⟨t443, A26, H⟩ := bindS H
    by_cases c27 : t443 = true
    ·subst c27
     have H1 : ((laws_toFieldS.f k l1).bind fun t444 => ((laws_eqFieldS.f k t436 t444).bind fun t447 => (if t447 = true then (some true) else (some false)))) = some r := by rw [if_pos rfl] at H; exact H
     clear H
     have H := H1
     clear H1
     obtain ⟨t444, A28, H⟩ := bindS H
     obtain ⟨t447, A29, H⟩ := bindS H
     by_cases c30 : t447 = true
     ·subst c30
      have H1 : (some true) = some r := by rw [if_pos rfl] at H; exact H
      clear H
      have H := H1
      clear H1
      obtain rfl := Option.some.inj H
      go_enter Try.func3, Try.ntmps3
      go_wp2_with (first | ((with_reducible refine gate_callee (f := 6) rfl ?_); refine goesL_ (some 14) rfl rfl Try.func6 (by kernel_rfl) rfl #[.slice A0 l0.length c0, .int .i64 1048576] rfl zG ?_; (with_reducible refine (laws_szFieldS.calls _ _ l0 1048576 t424 _ ?side1 ?side2 A4.out).mono ?_); (case side1 => exact cT HR0); (case side2 => exact HC0.out); rintro e w' ⟨rfl, ⟨nd, rfl⟩⟩; refine ⟨_, rfl, ?_⟩) | ((with_reducible refine gate_callee (f := 6) rfl ?_); refine goesL_ (some 19) rfl rfl Try.func6 (by kernel_rfl) rfl #[.slice A1 l1.length c1, .int .i64 t424] rfl zG ?_; (with_reducible refine (laws_szFieldS.calls _ _ l1 t424 t425 _ ?side1 ?side2 A6.out).mono ?_); (case side1 => exact cT HR1); (case side2 => exact HC1.out); rintro e w' ⟨rfl, ⟨nd, rfl⟩⟩; refine ⟨_, rfl, ?_⟩) | ((with_reducible refine gate_callee (f := 8) rfl ?_); refine goesL_ (some 23) rfl rfl Try.func8 (by kernel_rfl) rfl #[.slice A0 l0.length c0] rfl zG ?_; (with_reducible refine (laws_toFieldS.calls k _ _ l0 t426 _ ?side1 ?side2 A8.out).mono ?_); (case side1 => exact cT HR0); (case side2 => exact HC0.out); rintro e w31 ⟨v427, rfl, ho0, hb⟩; refine ⟨_, rfl, ?_⟩; have HO428 := Aside0.mk (Kd.R_lower ho0 (below_size (zB HB))); replace HB := bS HB hb; (try clear hb); (try clear ho0)) | ((with_reducible refine gate_callee (f := 8) rfl ?_); refine goesL_ (some 25) rfl rfl Try.func8 (by kernel_rfl) rfl #[.slice A1 l1.length c1] rfl zG ?_; (with_reducible refine (laws_toFieldS.calls k _ _ l1 t429 _ ?side1 ?side2 A9.out).mono ?_); (case side1 => exact cS HR1 HB); (case side2 => exact HC1.out); rintro e w32 ⟨v430, rfl, ho0, hb⟩; refine ⟨_, rfl, ?_⟩; have HO431 := Aside0.mk (Kd.R_lower (Kd.R_new' ho0 (Kd.R_lt (zR HO428))) (below_size (zB HB))); replace HO428 := Aside0.mk (Kd.R_elder' (zR HO428) (Kd.R_base ho0) hb); replace HB := bS HB hb; (try clear hb); (try clear ho0); obtain ⟨Ao33, co33, eo33⟩ := Kd.R_slice HO428.out; subst eo33; obtain ⟨Ao34, co34, eo34⟩ := Kd.R_slice HO431.out; subst eo34) | ((with_reducible refine gate_callee (f := 7) rfl ?_); refine goesL_ (some 27) rfl rfl Try.func7 (by kernel_rfl) rfl #[.slice Ao33 t426.length co33, .slice Ao34 t429.length co34, .int .i64 a2] rfl zG ?_; (with_reducible refine (spec_SkipsTail.calls k _ _ t426 _ _ t429 a2 t432 _ ?side1 ?side2 ?side3 ?side4 A10.out).mono ?_); (case side1 => repeat (first | exact (Kd.R_reads' HO428.out).2.2 | (with_reducible refine Kd.C_alloc ?_ _) | (with_reducible refine Kd.C_drewN ?_ _) | (with_reducible refine Kd.C_drew ?_))); (case side2 => exact (Kd.R_reads' HO428.out).2.1); (case side3 => repeat (first | exact (Kd.R_reads' HO431.out).2.2 | (with_reducible refine Kd.C_alloc ?_ _) | (with_reducible refine Kd.C_drewN ?_ _) | (with_reducible refine Kd.C_drew ?_))); (case side4 => exact (Kd.R_reads' HO431.out).2.1); rintro e w35 ⟨rfl, hb⟩; refine ⟨_, rfl, ?_⟩; replace HO428 := Aside0.mk (Kd.R_below (zR HO428) hb); replace HO431 := Aside0.mk (Kd.R_below (zR HO431) hb); replace HB := bS HB hb; (try clear hb)) | ((with_reducible refine gate_callee (f := 8) rfl ?_); refine goesL_ (some 29) rfl rfl Try.func8 (by kernel_rfl) rfl #[.slice A0 l0.length c0] rfl zG ?_; (with_reducible refine (laws_toFieldS.calls k _ _ l0 t433 _ ?side1 ?side2 A11.out).mono ?_); (case side1 => exact cS HR0 HB); (case side2 => exact HC0.out); rintro e w36 ⟨v434, rfl, ho0, hb⟩; refine ⟨_, rfl, ?_⟩; have HO435 := Aside0.mk (Kd.R_lower (Kd.R_new' (Kd.R_new' ho0 (Kd.R_lt (zR HO428))) (Kd.R_lt (zR HO431))) (below_size (zB HB))); replace HO428 := Aside0.mk (Kd.R_elder' (zR HO428) (Kd.R_base ho0) hb); replace HO431 := Aside0.mk (Kd.R_elder' (zR HO431) (Kd.R_base ho0) hb); replace HB := bS HB hb; (try clear hb); (try clear ho0)) | ((with_reducible refine gate_callee (f := 8) rfl ?_); refine goesL_ (some 31) rfl rfl Try.func8 (by kernel_rfl) rfl #[.slice A1 l1.length c1] rfl zG ?_; (with_reducible refine (laws_toFieldS.calls k _ _ l1 t436 _ ?side1 ?side2 A12.out).mono ?_); (case side1 => exact cS HR1 HB); (case side2 => exact HC1.out); rintro e w37 ⟨v437, rfl, ho0, hb⟩; refine ⟨_, rfl, ?_⟩; have HO438 := Aside0.mk (Kd.R_lower (Kd.R_new' (Kd.R_new' (Kd.R_new' ho0 (Kd.R_lt (zR HO428))) (Kd.R_lt (zR HO431))) (Kd.R_lt (zR HO435))) (below_size (zB HB))); replace HO428 := Aside0.mk (Kd.R_elder' (zR HO428) (Kd.R_base ho0) hb); replace HO431 := Aside0.mk (Kd.R_elder' (zR HO431) (Kd.R_base ho0) hb); replace HO435 := Aside0.mk (Kd.R_elder' (zR HO435) (Kd.R_base ho0) hb); replace HB := bS HB hb; (try clear hb); (try clear ho0); obtain ⟨Ao38, co38, eo38⟩ := Kd.R_slice HO435.out; subst eo38; obtain ⟨Ao39, co39, eo39⟩ := Kd.R_slice HO438.out; subst eo39) | ((with_reducible refine gate_callee (f := 9) rfl ?_); refine goesL_ (some 35) rfl rfl Try.func9 (by kernel_rfl) rfl #[.slice Ao38 t433.length co38, .slice Ao39 t436.length co39, .int .i64 a2] rfl zG ?_; (with_reducible refine (impl_SkipsTail.calls k _ _ t433 _ _ t436 a2 t439 _ ?side1 ?side2 ?side3 ?side4 A13.out).mono ?_); (case side1 => repeat (first | exact (Kd.R_reads' HO435.out).2.2 | (with_reducible refine Kd.C_alloc ?_ _) | (with_reducible refine Kd.C_drewN ?_ _) | (with_reducible refine Kd.C_drew ?_))); (case side2 => exact (Kd.R_reads' HO435.out).2.1); (case side3 => repeat (first | exact (Kd.R_reads' HO438.out).2.2 | (with_reducible refine Kd.C_alloc ?_ _) | (with_reducible refine Kd.C_drewN ?_ _) | (with_reducible refine Kd.C_drew ?_))); (case side4 => exact (Kd.R_reads' HO438.out).2.1); rintro e w40 ⟨rfl, hb⟩; refine ⟨_, rfl, ?_⟩; replace HO428 := Aside0.mk (Kd.R_below (zR HO428) hb); replace HO431 := Aside0.mk (Kd.R_below (zR HO431) hb); replace HO435 := Aside0.mk (Kd.R_below (zR HO435) hb); replace HO438 := Aside0.mk (Kd.R_below (zR HO438) hb); replace HB := bS HB hb; (try clear hb)) | ((with_reducible refine gate_callee (f := 8) rfl ?_); refine goesL_ (some 41) rfl rfl Try.func8 (by kernel_rfl) rfl #[.slice A0 l0.length c0] rfl zG ?_; (with_reducible refine (laws_toFieldS.calls k _ _ l0 t440 _ ?side1 ?side2 A25.out).mono ?_); (case side1 => exact cS HR0 HB); (case side2 => exact HC0.out); rintro e w41 ⟨v441, rfl, ho0, hb⟩; refine ⟨_, rfl, ?_⟩; have HO442 := Aside0.mk (Kd.R_lower (Kd.R_new' (Kd.R_new' (Kd.R_new' (Kd.R_new' ho0 (Kd.R_lt (zR HO428))) (Kd.R_lt (zR HO431))) (Kd.R_lt (zR HO435))) (Kd.R_lt (zR HO438))) (below_size (zB HB))); replace HO428 := Aside0.mk (Kd.R_elder' (zR HO428) (Kd.R_base ho0) hb); replace HO431 := Aside0.mk (Kd.R_elder' (zR HO431) (Kd.R_base ho0) hb); replace HO435 := Aside0.mk (Kd.R_elder' (zR HO435) (Kd.R_base ho0) hb); replace HO438 := Aside0.mk (Kd.R_elder' (zR HO438) (Kd.R_base ho0) hb); replace HB := bS HB hb; (try clear hb); (try clear ho0); obtain ⟨Ao42, co42, eo42⟩ := Kd.R_slice HO442.out; subst eo42) | ((with_reducible refine gate_callee (f := 10) rfl ?_); refine goesL_ (some 42) rfl rfl Try.func10 (by kernel_rfl) rfl #[.slice Ao38 t433.length co38, .slice Ao42 t440.length co42] rfl zG ?_; (with_reducible refine (laws_eqFieldS.calls k _ _ t433 _ _ t440 true _ ?side1 ?side2 ?side3 ?side4 A26.out).mono ?_); (case side1 => repeat (first | exact (Kd.R_reads' HO435.out).2.2 | (with_reducible refine Kd.C_alloc ?_ _) | (with_reducible refine Kd.C_drewN ?_ _) | (with_reducible refine Kd.C_drew ?_))); (case side2 => exact (Kd.R_reads' HO435.out).2.1); (case side3 => repeat (first | exact (Kd.R_reads' HO442.out).2.2 | (with_reducible refine Kd.C_alloc ?_ _) | (with_reducible refine Kd.C_drewN ?_ _) | (with_reducible refine Kd.C_drew ?_))); (case side4 => exact (Kd.R_reads' HO442.out).2.1); rintro e w43 ⟨rfl, hb⟩; refine ⟨_, rfl, ?_⟩; replace HO428 := Aside0.mk (Kd.R_below (zR HO428) hb); replace HO431 := Aside0.mk (Kd.R_below (zR HO431) hb); replace HO435 := Aside0.mk (Kd.R_below (zR HO435) hb); replace HO438 := Aside0.mk (Kd.R_below (zR HO438) hb); replace HO442 := Aside0.mk (Kd.R_below (zR HO442) hb); replace HB := bS HB hb; (try clear hb)) | ((with_reducible refine gate_callee (f := 8) rfl ?_); refine goesL_ (some 46) rfl rfl Try.func8 (by kernel_rfl) rfl #[.slice A1 l1.length c1] rfl zG ?_; (with_reducible refine (laws_toFieldS.calls k _ _ l1 t444 _ ?side1 ?side2 A28.out).mono ?_); (case side1 => exact cS HR1 HB); (case side2 => exact HC1.out); rintro e w44 ⟨v445, rfl, ho0, hb⟩; refine ⟨_, rfl, ?_⟩; have HO446 := Aside0.mk (Kd.R_lower (Kd.R_new' (Kd.R_new' (Kd.R_new' (Kd.R_new' (Kd.R_new' ho0 (Kd.R_lt (zR HO428))) (Kd.R_lt (zR HO431))) (Kd.R_lt (zR HO435))) (Kd.R_lt (zR HO438))) (Kd.R_lt (zR HO442))) (below_size (zB HB))); replace HO428 := Aside0.mk (Kd.R_elder' (zR HO428) (Kd.R_base ho0) hb); replace HO431 := Aside0.mk (Kd.R_elder' (zR HO431) (Kd.R_base ho0) hb); replace HO435 := Aside0.mk (Kd.R_elder' (zR HO435) (Kd.R_base ho0) hb); replace HO438 := Aside0.mk (Kd.R_elder' (zR HO438) (Kd.R_base ho0) hb); replace HO442 := Aside0.mk (Kd.R_elder' (zR HO442) (Kd.R_base ho0) hb); replace HB := bS HB hb; (try clear hb); (try clear ho0); obtain ⟨Ao45, co45, eo45⟩ := Kd.R_slice HO446.out; subst eo45) | ((with_reducible refine gate_callee (f := 10) rfl ?_); refine goesL_ (some 47) rfl rfl Try.func10 (by kernel_rfl) rfl #[.slice Ao39 t436.length co39, .slice Ao45 t444.length co45] rfl zG ?_; (with_reducible refine (laws_eqFieldS.calls k _ _ t436 _ _ t444 true _ ?side1 ?side2 ?side3 ?side4 A29.out).mono ?_); (case side1 => repeat (first | exact (Kd.R_reads' HO438.out).2.2 | (with_reducible refine Kd.C_alloc ?_ _) | (with_reducible refine Kd.C_drewN ?_ _) | (with_reducible refine Kd.C_drew ?_))); (case side2 => exact (Kd.R_reads' HO438.out).2.1); (case side3 => repeat (first | exact (Kd.R_reads' HO446.out).2.2 | (with_reducible refine Kd.C_alloc ?_ _) | (with_reducible refine Kd.C_drewN ?_ _) | (with_reducible refine Kd.C_drew ?_))); (case side4 => exact (Kd.R_reads' HO446.out).2.1); rintro e w46 ⟨rfl, hb⟩; refine ⟨_, rfl, ?_⟩; replace HO428 := Aside0.mk (Kd.R_below (zR HO428) hb); replace HO431 := Aside0.mk (Kd.R_below (zR HO431) hb); replace HO435 := Aside0.mk (Kd.R_below (zR HO435) hb); replace HO438 := Aside0.mk (Kd.R_below (zR HO438) hb); replace HO442 := Aside0.mk (Kd.R_below (zR HO442) hb); replace HO446 := Aside0.mk (Kd.R_below (zR HO446) hb); replace HB := bS HB hb; (try clear hb)))
      go_ret
      exact ⟨zE, zB HB⟩
     ·replace c30 := Bool.eq_false_iff.mpr c30
      subst c30
      have H1 : (some false) = some r := by rw [if_neg (show ¬ (false = true) by decide)] at H; exact H
      clear H
      have H := H1
      clear H1
      obtain rfl := Option.some.inj H
      go_enter Try.func3, Try.ntmps3
      go_wp2_with (first | ((with_reducible refine gate_callee (f := 6) rfl ?_); refine goesL_ (some 14) rfl rfl Try.func6 (by kernel_rfl) rfl #[.slice A0 l0.length c0, .int .i64 1048576] rfl zG ?_; (with_reducible refine (laws_szFieldS.calls _ _ l0 1048576 t424 _ ?side1 ?side2 A4.out).mono ?_); (case side1 => exact cT HR0); (case side2 => exact HC0.out); rintro e w' ⟨rfl, ⟨nd, rfl⟩⟩; refine ⟨_, rfl, ?_⟩) | ((with_reducible refine gate_callee (f := 6) rfl ?_); refine goesL_ (some 19) rfl rfl Try.func6 (by kernel_rfl) rfl #[.slice A1 l1.length c1, .int .i64 t424] rfl zG ?_; (with_reducible refine (laws_szFieldS.calls _ _ l1 t424 t425 _ ?side1 ?side2 A6.out).mono ?_); (case side1 => exact cT HR1); (case side2 => exact HC1.out); rintro e w' ⟨rfl, ⟨nd, rfl⟩⟩; refine ⟨_, rfl, ?_⟩) | ((with_reducible refine gate_callee (f := 8) rfl ?_); refine goesL_ (some 23) rfl rfl Try.func8 (by kernel_rfl) rfl #[.slice A0 l0.length c0] rfl zG ?_; (with_reducible refine (laws_toFieldS.calls k _ _ l0 t426 _ ?side1 ?side2 A8.out).mono ?_); (case side1 => exact cT HR0); (case side2 => exact HC0.out); rintro e w47 ⟨v427, rfl, ho0, hb⟩; refine ⟨_, rfl, ?_⟩; have HO428 := Aside0.mk (Kd.R_lower ho0 (below_size (zB HB))); replace HB := bS HB hb; (try clear hb); (try clear ho0)) | ((with_reducible refine gate_callee (f := 8) rfl ?_); refine goesL_ (some 25) rfl rfl Try.func8 (by kernel_rfl) rfl #[.slice A1 l1.length c1] rfl zG ?_; (with_reducible refine (laws_toFieldS.calls k _ _ l1 t429 _ ?side1 ?side2 A9.out).mono ?_); (case side1 => exact cS HR1 HB); (case side2 => exact HC1.out); rintro e w48 ⟨v430, rfl, ho0, hb⟩; refine ⟨_, rfl, ?_⟩; have HO431 := Aside0.mk (Kd.R_lower (Kd.R_new' ho0 (Kd.R_lt (zR HO428))) (below_size (zB HB))); replace HO428 := Aside0.mk (Kd.R_elder' (zR HO428) (Kd.R_base ho0) hb); replace HB := bS HB hb; (try clear hb); (try clear ho0); obtain ⟨Ao49, co49, eo49⟩ := Kd.R_slice HO428.out; subst eo49; obtain ⟨Ao50, co50, eo50⟩ := Kd.R_slice HO431.out; subst eo50) | ((with_reducible refine gate_callee (f := 7) rfl ?_); refine goesL_ (some 27) rfl rfl Try.func7 (by kernel_rfl) rfl #[.slice Ao49 t426.length co49, .slice Ao50 t429.length co50, .int .i64 a2] rfl zG ?_; (with_reducible refine (spec_SkipsTail.calls k _ _ t426 _ _ t429 a2 t432 _ ?side1 ?side2 ?side3 ?side4 A10.out).mono ?_); (case side1 => repeat (first | exact (Kd.R_reads' HO428.out).2.2 | (with_reducible refine Kd.C_alloc ?_ _) | (with_reducible refine Kd.C_drewN ?_ _) | (with_reducible refine Kd.C_drew ?_))); (case side2 => exact (Kd.R_reads' HO428.out).2.1); (case side3 => repeat (first | exact (Kd.R_reads' HO431.out).2.2 | (with_reducible refine Kd.C_alloc ?_ _) | (with_reducible refine Kd.C_drewN ?_ _) | (with_reducible refine Kd.C_drew ?_))); (case side4 => exact (Kd.R_reads' HO431.out).2.1); rintro e w51 ⟨rfl, hb⟩; refine ⟨_, rfl, ?_⟩; replace HO428 := Aside0.mk (Kd.R_below (zR HO428) hb); replace HO431 := Aside0.mk (Kd.R_below (zR HO431) hb); replace HB := bS HB hb; (try clear hb)) | ((with_reducible refine gate_callee (f := 8) rfl ?_); refine goesL_ (some 29) rfl rfl Try.func8 (by kernel_rfl) rfl #[.slice A0 l0.length c0] rfl zG ?_; (with_reducible refine (laws_toFieldS.calls k _ _ l0 t433 _ ?side1 ?side2 A11.out).mono ?_); (case side1 => exact cS HR0 HB); (case side2 => exact HC0.out); rintro e w52 ⟨v434, rfl, ho0, hb⟩; refine ⟨_, rfl, ?_⟩; have HO435 := Aside0.mk (Kd.R_lower (Kd.R_new' (Kd.R_new' ho0 (Kd.R_lt (zR HO428))) (Kd.R_lt (zR HO431))) (below_size (zB HB))); replace HO428 := Aside0.mk (Kd.R_elder' (zR HO428) (Kd.R_base ho0) hb); replace HO431 := Aside0.mk (Kd.R_elder' (zR HO431) (Kd.R_base ho0) hb); replace HB := bS HB hb; (try clear hb); (try clear ho0)) | ((with_reducible refine gate_callee (f := 8) rfl ?_); refine goesL_ (some 31) rfl rfl Try.func8 (by kernel_rfl) rfl #[.slice A1 l1.length c1] rfl zG ?_; (with_reducible refine (laws_toFieldS.calls k _ _ l1 t436 _ ?side1 ?side2 A12.out).mono ?_); (case side1 => exact cS HR1 HB); (case side2 => exact HC1.out); rintro e w53 ⟨v437, rfl, ho0, hb⟩; refine ⟨_, rfl, ?_⟩; have HO438 := Aside0.mk (Kd.R_lower (Kd.R_new' (Kd.R_new' (Kd.R_new' ho0 (Kd.R_lt (zR HO428))) (Kd.R_lt (zR HO431))) (Kd.R_lt (zR HO435))) (below_size (zB HB))); replace HO428 := Aside0.mk (Kd.R_elder' (zR HO428) (Kd.R_base ho0) hb); replace HO431 := Aside0.mk (Kd.R_elder' (zR HO431) (Kd.R_base ho0) hb); replace HO435 := Aside0.mk (Kd.R_elder' (zR HO435) (Kd.R_base ho0) hb); replace HB := bS HB hb; (try clear hb); (try clear ho0); obtain ⟨Ao54, co54, eo54⟩ := Kd.R_slice HO435.out; subst eo54; obtain ⟨Ao55, co55, eo55⟩ := Kd.R_slice HO438.out; subst eo55) | ((with_reducible refine gate_callee (f := 9) rfl ?_); refine goesL_ (some 35) rfl rfl Try.func9 (by kernel_rfl) rfl #[.slice Ao54 t433.length co54, .slice Ao55 t436.length co55, .int .i64 a2] rfl zG ?_; (with_reducible refine (impl_SkipsTail.calls k _ _ t433 _ _ t436 a2 t439 _ ?side1 ?side2 ?side3 ?side4 A13.out).mono ?_); (case side1 => repeat (first | exact (Kd.R_reads' HO435.out).2.2 | (with_reducible refine Kd.C_alloc ?_ _) | (with_reducible refine Kd.C_drewN ?_ _) | (with_reducible refine Kd.C_drew ?_))); (case side2 => exact (Kd.R_reads' HO435.out).2.1); (case side3 => repeat (first | exact (Kd.R_reads' HO438.out).2.2 | (with_reducible refine Kd.C_alloc ?_ _) | (with_reducible refine Kd.C_drewN ?_ _) | (with_reducible refine Kd.C_drew ?_))); (case side4 => exact (Kd.R_reads' HO438.out).2.1); rintro e w56 ⟨rfl, hb⟩; refine ⟨_, rfl, ?_⟩; replace HO428 := Aside0.mk (Kd.R_below (zR HO428) hb); replace HO431 := Aside0.mk (Kd.R_below (zR HO431) hb); replace HO435 := Aside0.mk (Kd.R_below (zR HO435) hb); replace HO438 := Aside0.mk (Kd.R_below (zR HO438) hb); replace HB := bS HB hb; (try clear hb)) | ((with_reducible refine gate_callee (f := 8) rfl ?_); refine goesL_ (some 41) rfl rfl Try.func8 (by kernel_rfl) rfl #[.slice A0 l0.length c0] rfl zG ?_; (with_reducible refine (laws_toFieldS.calls k _ _ l0 t440 _ ?side1 ?side2 A25.out).mono ?_); (case side1 => exact cS HR0 HB); (case side2 => exact HC0.out); rintro e w57 ⟨v441, rfl, ho0, hb⟩; refine ⟨_, rfl, ?_⟩; have HO442 := Aside0.mk (Kd.R_lower (Kd.R_new' (Kd.R_new' (Kd.R_new' (Kd.R_new' ho0 (Kd.R_lt (zR HO428))) (Kd.R_lt (zR HO431))) (Kd.R_lt (zR HO435))) (Kd.R_lt (zR HO438))) (below_size (zB HB))); replace HO428 := Aside0.mk (Kd.R_elder' (zR HO428) (Kd.R_base ho0) hb); replace HO431 := Aside0.mk (Kd.R_elder' (zR HO431) (Kd.R_base ho0) hb); replace HO435 := Aside0.mk (Kd.R_elder' (zR HO435) (Kd.R_base ho0) hb); replace HO438 := Aside0.mk (Kd.R_elder' (zR HO438) (Kd.R_base ho0) hb); replace HB := bS HB hb; (try clear hb); (try clear ho0); obtain ⟨Ao58, co58, eo58⟩ := Kd.R_slice HO442.out; subst eo58) | ((with_reducible refine gate_callee (f := 10) rfl ?_); refine goesL_ (some 42) rfl rfl Try.func10 (by kernel_rfl) rfl #[.slice Ao54 t433.length co54, .slice Ao58 t440.length co58] rfl zG ?_; (with_reducible refine (laws_eqFieldS.calls k _ _ t433 _ _ t440 true _ ?side1 ?side2 ?side3 ?side4 A26.out).mono ?_); (case side1 => repeat (first | exact (Kd.R_reads' HO435.out).2.2 | (with_reducible refine Kd.C_alloc ?_ _) | (with_reducible refine Kd.C_drewN ?_ _) | (with_reducible refine Kd.C_drew ?_))); (case side2 => exact (Kd.R_reads' HO435.out).2.1); (case side3 => repeat (first | exact (Kd.R_reads' HO442.out).2.2 | (with_reducible refine Kd.C_alloc ?_ _) | (with_reducible refine Kd.C_drewN ?_ _) | (with_reducible refine Kd.C_drew ?_))); (case side4 => exact (Kd.R_reads' HO442.out).2.1); rintro e w59 ⟨rfl, hb⟩; refine ⟨_, rfl, ?_⟩; replace HO428 := Aside0.mk (Kd.R_below (zR HO428) hb); replace HO431 := Aside0.mk (Kd.R_below (zR HO431) hb); replace HO435 := Aside0.mk (Kd.R_below (zR HO435) hb); replace HO438 := Aside0.mk (Kd.R_below (zR HO438) hb); replace HO442 := Aside0.mk (Kd.R_below (zR HO442) hb); replace HB := bS HB hb; (try clear hb)) | ((with_reducible refine gate_callee (f := 8) rfl ?_); refine goesL_ (some 46) rfl rfl Try.func8 (by kernel_rfl) rfl #[.slice A1 l1.length c1] rfl zG ?_; (with_reducible refine (laws_toFieldS.calls k _ _ l1 t444 _ ?side1 ?side2 A28.out).mono ?_); (case side1 => exact cS HR1 HB); (case side2 => exact HC1.out); rintro e w60 ⟨v445, rfl, ho0, hb⟩; refine ⟨_, rfl, ?_⟩; have HO446 := Aside0.mk (Kd.R_lower (Kd.R_new' (Kd.R_new' (Kd.R_new' (Kd.R_new' (Kd.R_new' ho0 (Kd.R_lt (zR HO428))) (Kd.R_lt (zR HO431))) (Kd.R_lt (zR HO435))) (Kd.R_lt (zR HO438))) (Kd.R_lt (zR HO442))) (below_size (zB HB))); replace HO428 := Aside0.mk (Kd.R_elder' (zR HO428) (Kd.R_base ho0) hb); replace HO431 := Aside0.mk (Kd.R_elder' (zR HO431) (Kd.R_base ho0) hb); replace HO435 := Aside0.mk (Kd.R_elder' (zR HO435) (Kd.R_base ho0) hb); replace HO438 := Aside0.mk (Kd.R_elder' (zR HO438) (Kd.R_base ho0) hb); replace HO442 := Aside0.mk (Kd.R_elder' (zR HO442) (Kd.R_base ho0) hb); replace HB := bS HB hb; (try clear hb); (try clear ho0); obtain ⟨Ao61, co61, eo61⟩ := Kd.R_slice HO446.out; subst eo61) | ((with_reducible refine gate_callee (f := 10) rfl ?_); refine goesL_ (some 47) rfl rfl Try.func10 (by kernel_rfl) rfl #[.slice Ao55 t436.length co55, .slice Ao61 t444.length co61] rfl zG ?_; (with_reducible refine (laws_eqFieldS.calls k _ _ t436 _ _ t444 false _ ?side1 ?side2 ?side3 ?side4 A29.out).mono ?_); (case side1 => repeat (first | exact (Kd.R_reads' HO438.out).2.2 | (with_reducible refine Kd.C_alloc ?_ _) | (with_reducible refine Kd.C_drewN ?_ _) | (with_reducible refine Kd.C_drew ?_))); (case side2 => exact (Kd.R_reads' HO438.out).2.1); (case side3 => repeat (first | exact (Kd.R_reads' HO446.out).2.2 | (with_reducible refine Kd.C_alloc ?_ _) | (with_reducible refine Kd.C_drewN ?_ _) | (with_reducible refine Kd.C_drew ?_))); (case side4 => exact (Kd.R_reads' HO446.out).2.1); rintro e w62 ⟨rfl, hb⟩; refine ⟨_, rfl, ?_⟩; replace HO428 := Aside0.mk (Kd.R_below (zR HO428) hb); replace HO431 := Aside0.mk (Kd.R_below (zR HO431) hb); replace HO435 := Aside0.mk (Kd.R_below (zR HO435) hb); replace HO438 := Aside0.mk (Kd.R_below (zR HO438) hb); replace HO442 := Aside0.mk (Kd.R_below (zR HO442) hb); replace HO446 := Aside0.mk (Kd.R_below (zR HO446) hb); replace HB := bS HB hb; (try clear hb)))
      go_ret
      exact ⟨zE, zB HB⟩
    ·replace c27 := Bool.eq_false_iff.mpr c27
     subst c27
     have H1 : (some false) = some r := by rw [if_neg (show ¬ (false = true) by decide)] at H; exact H
     clear H
     have H := H1
     clear H1
     obtain rfl := Option.some.inj H
     go_enter Try.func3, Try.ntmps3
     go_wp2_with (first | ((with_reducible refine gate_callee (f := 6) rfl ?_); refine goesL_ (some 14) rfl rfl Try.func6 (by kernel_rfl) rfl #[.slice A0 l0.length c0, .int .i64 1048576] rfl zG ?_; (with_reducible refine (laws_szFieldS.calls _ _ l0 1048576 t424 _ ?side1 ?side2 A4.out).mono ?_); (case side1 => exact cT HR0); (case side2 => exact HC0.out); rintro e w' ⟨rfl, ⟨nd, rfl⟩⟩; refine ⟨_, rfl, ?_⟩) | ((with_reducible refine gate_callee (f := 6) rfl ?_); refine goesL_ (some 19) rfl rfl Try.func6 (by kernel_rfl) rfl #[.slice A1 l1.length c1, .int .i64 t424] rfl zG ?_; (with_reducible refine (laws_szFieldS.calls _ _ l1 t424 t425 _ ?side1 ?side2 A6.out).mono ?_); (case side1 => exact cT HR1); (case side2 => exact HC1.out); rintro e w' ⟨rfl, ⟨nd, rfl⟩⟩; refine ⟨_, rfl, ?_⟩) | ((with_reducible refine gate_callee (f := 8) rfl ?_); refine goesL_ (some 23) rfl rfl Try.func8 (by kernel_rfl) rfl #[.slice A0 l0.length c0] rfl zG ?_; (with_reducible refine (laws_toFieldS.calls k _ _ l0 t426 _ ?side1 ?side2 A8.out).mono ?_); (case side1 => exact cT HR0); (case side2 => exact HC0.out); rintro e w63 ⟨v427, rfl, ho0, hb⟩; refine ⟨_, rfl, ?_⟩; have HO428 := Aside0.mk (Kd.R_lower ho0 (below_size (zB HB))); replace HB := bS HB hb; (try clear hb); (try clear ho0)) | ((with_reducible refine gate_callee (f := 8) rfl ?_); refine goesL_ (some 25) rfl rfl Try.func8 (by kernel_rfl) rfl #[.slice A1 l1.length c1] rfl zG ?_; (with_reducible refine (laws_toFieldS.calls k _ _ l1 t429 _ ?side1 ?side2 A9.out).mono ?_); (case side1 => exact cS HR1 HB); (case side2 => exact HC1.out); rintro e w64 ⟨v430, rfl, ho0, hb⟩; refine ⟨_, rfl, ?_⟩; have HO431 := Aside0.mk (Kd.R_lower (Kd.R_new' ho0 (Kd.R_lt (zR HO428))) (below_size (zB HB))); replace HO428 := Aside0.mk (Kd.R_elder' (zR HO428) (Kd.R_base ho0) hb); replace HB := bS HB hb; (try clear hb); (try clear ho0); obtain ⟨Ao65, co65, eo65⟩ := Kd.R_slice HO428.out; subst eo65; obtain ⟨Ao66, co66, eo66⟩ := Kd.R_slice HO431.out; subst eo66) | ((with_reducible refine gate_callee (f := 7) rfl ?_); refine goesL_ (some 27) rfl rfl Try.func7 (by kernel_rfl) rfl #[.slice Ao65 t426.length co65, .slice Ao66 t429.length co66, .int .i64 a2] rfl zG ?_; (with_reducible refine (spec_SkipsTail.calls k _ _ t426 _ _ t429 a2 t432 _ ?side1 ?side2 ?side3 ?side4 A10.out).mono ?_); (case side1 => repeat (first | exact (Kd.R_reads' HO428.out).2.2 | (with_reducible refine Kd.C_alloc ?_ _) | (with_reducible refine Kd.C_drewN ?_ _) | (with_reducible refine Kd.C_drew ?_))); (case side2 => exact (Kd.R_reads' HO428.out).2.1); (case side3 => repeat (first | exact (Kd.R_reads' HO431.out).2.2 | (with_reducible refine Kd.C_alloc ?_ _) | (with_reducible refine Kd.C_drewN ?_ _) | (with_reducible refine Kd.C_drew ?_))); (case side4 => exact (Kd.R_reads' HO431.out).2.1); rintro e w67 ⟨rfl, hb⟩; refine ⟨_, rfl, ?_⟩; replace HO428 := Aside0.mk (Kd.R_below (zR HO428) hb); replace HO431 := Aside0.mk (Kd.R_below (zR HO431) hb); replace HB := bS HB hb; (try clear hb)) | ((with_reducible refine gate_callee (f := 8) rfl ?_); refine goesL_ (some 29) rfl rfl Try.func8 (by kernel_rfl) rfl #[.slice A0 l0.length c0] rfl zG ?_; (with_reducible refine (laws_toFieldS.calls k _ _ l0 t433 _ ?side1 ?side2 A11.out).mono ?_); (case side1 => exact cS HR0 HB); (case side2 => exact HC0.out); rintro e w68 ⟨v434, rfl, ho0, hb⟩; refine ⟨_, rfl, ?_⟩; have HO435 := Aside0.mk (Kd.R_lower (Kd.R_new' (Kd.R_new' ho0 (Kd.R_lt (zR HO428))) (Kd.R_lt (zR HO431))) (below_size (zB HB))); replace HO428 := Aside0.mk (Kd.R_elder' (zR HO428) (Kd.R_base ho0) hb); replace HO431 := Aside0.mk (Kd.R_elder' (zR HO431) (Kd.R_base ho0) hb); replace HB := bS HB hb; (try clear hb); (try clear ho0)) | ((with_reducible refine gate_callee (f := 8) rfl ?_); refine goesL_ (some 31) rfl rfl Try.func8 (by kernel_rfl) rfl #[.slice A1 l1.length c1] rfl zG ?_; (with_reducible refine (laws_toFieldS.calls k _ _ l1 t436 _ ?side1 ?side2 A12.out).mono ?_); (case side1 => exact cS HR1 HB); (case side2 => exact HC1.out); rintro e w69 ⟨v437, rfl, ho0, hb⟩; refine ⟨_, rfl, ?_⟩; have HO438 := Aside0.mk (Kd.R_lower (Kd.R_new' (Kd.R_new' (Kd.R_new' ho0 (Kd.R_lt (zR HO428))) (Kd.R_lt (zR HO431))) (Kd.R_lt (zR HO435))) (below_size (zB HB))); replace HO428 := Aside0.mk (Kd.R_elder' (zR HO428) (Kd.R_base ho0) hb); replace HO431 := Aside0.mk (Kd.R_elder' (zR HO431) (Kd.R_base ho0) hb); replace HO435 := Aside0.mk (Kd.R_elder' (zR HO435) (Kd.R_base ho0) hb); replace HB := bS HB hb; (try clear hb); (try clear ho0); obtain ⟨Ao70, co70, eo70⟩ := Kd.R_slice HO435.out; subst eo70; obtain ⟨Ao71, co71, eo71⟩ := Kd.R_slice HO438.out; subst eo71) | ((with_reducible refine gate_callee (f := 9) rfl ?_); refine goesL_ (some 35) rfl rfl Try.func9 (by kernel_rfl) rfl #[.slice Ao70 t433.length co70, .slice Ao71 t436.length co71, .int .i64 a2] rfl zG ?_; (with_reducible refine (impl_SkipsTail.calls k _ _ t433 _ _ t436 a2 t439 _ ?side1 ?side2 ?side3 ?side4 A13.out).mono ?_); (case side1 => repeat (first | exact (Kd.R_reads' HO435.out).2.2 | (with_reducible refine Kd.C_alloc ?_ _) | (with_reducible refine Kd.C_drewN ?_ _) | (with_reducible refine Kd.C_drew ?_))); (case side2 => exact (Kd.R_reads' HO435.out).2.1); (case side3 => repeat (first | exact (Kd.R_reads' HO438.out).2.2 | (with_reducible refine Kd.C_alloc ?_ _) | (with_reducible refine Kd.C_drewN ?_ _) | (with_reducible refine Kd.C_drew ?_))); (case side4 => exact (Kd.R_reads' HO438.out).2.1); rintro e w72 ⟨rfl, hb⟩; refine ⟨_, rfl, ?_⟩; replace HO428 := Aside0.mk (Kd.R_below (zR HO428) hb); replace HO431 := Aside0.mk (Kd.R_below (zR HO431) hb); replace HO435 := Aside0.mk (Kd.R_below (zR HO435) hb); replace HO438 := Aside0.mk (Kd.R_below (zR HO438) hb); replace HB := bS HB hb; (try clear hb)) | ((with_reducible refine gate_callee (f := 8) rfl ?_); refine goesL_ (some 41) rfl rfl Try.func8 (by kernel_rfl) rfl #[.slice A0 l0.length c0] rfl zG ?_; (with_reducible refine (laws_toFieldS.calls k _ _ l0 t440 _ ?side1 ?side2 A25.out).mono ?_); (case side1 => exact cS HR0 HB); (case side2 => exact HC0.out); rintro e w73 ⟨v441, rfl, ho0, hb⟩; refine ⟨_, rfl, ?_⟩; have HO442 := Aside0.mk (Kd.R_lower (Kd.R_new' (Kd.R_new' (Kd.R_new' (Kd.R_new' ho0 (Kd.R_lt (zR HO428))) (Kd.R_lt (zR HO431))) (Kd.R_lt (zR HO435))) (Kd.R_lt (zR HO438))) (below_size (zB HB))); replace HO428 := Aside0.mk (Kd.R_elder' (zR HO428) (Kd.R_base ho0) hb); replace HO431 := Aside0.mk (Kd.R_elder' (zR HO431) (Kd.R_base ho0) hb); replace HO435 := Aside0.mk (Kd.R_elder' (zR HO435) (Kd.R_base ho0) hb); replace HO438 := Aside0.mk (Kd.R_elder' (zR HO438) (Kd.R_base ho0) hb); replace HB := bS HB hb; (try clear hb); (try clear ho0); obtain ⟨Ao74, co74, eo74⟩ := Kd.R_slice HO442.out; subst eo74) | ((with_reducible refine gate_callee (f := 10) rfl ?_); refine goesL_ (some 42) rfl rfl Try.func10 (by kernel_rfl) rfl #[.slice Ao70 t433.length co70, .slice Ao74 t440.length co74] rfl zG ?_; (with_reducible refine (laws_eqFieldS.calls k _ _ t433 _ _ t440 false _ ?side1 ?side2 ?side3 ?side4 A26.out).mono ?_); (case side1 => repeat (first | exact (Kd.R_reads' HO435.out).2.2 | (with_reducible refine Kd.C_alloc ?_ _) | (with_reducible refine Kd.C_drewN ?_ _) | (with_reducible refine Kd.C_drew ?_))); (case side2 => exact (Kd.R_reads' HO435.out).2.1); (case side3 => repeat (first | exact (Kd.R_reads' HO442.out).2.2 | (with_reducible refine Kd.C_alloc ?_ _) | (with_reducible refine Kd.C_drewN ?_ _) | (with_reducible refine Kd.C_drew ?_))); (case side4 => exact (Kd.R_reads' HO442.out).2.1); rintro e w75 ⟨rfl, hb⟩; refine ⟨_, rfl, ?_⟩; replace HO428 := Aside0.mk (Kd.R_below (zR HO428) hb); replace HO431 := Aside0.mk (Kd.R_below (zR HO431) hb); replace HO435 := Aside0.mk (Kd.R_below (zR HO435) hb); replace HO438 := Aside0.mk (Kd.R_below (zR HO438) hb); replace HO442 := Aside0.mk (Kd.R_below (zR HO442) hb); replace HB := bS HB hb; (try clear hb)))
     go_ret
     exact ⟨zE, zB HB⟩
/-- What is known of a value of type 49 that came in. -/
def W49 (x : S49) : Prop := (Lit.int .i64 x.f0).wf = true ∧ (Lit.int .i64 x.f1).wf = true ∧ (Lit.int .i64 x.f2).wf = true ∧ (Lit.int .i64 x.f3).wf = true

/-- The pure statement of laws_FnExactSkipsTail. -/
def laws_FnExactSkipsTail.Pure : Prop := ∀ (l0 : List (S49)) (l1 : List (S49)) (a2 : Int), l0.length ≤ 9223372036854775807 → (∀ x ∈ l0, W49 x) → l1.length ≤ 9223372036854775807 → (∀ x ∈ l1, W49 x) → (Lit.int .i64 a2).wf = true → ∃ k, laws_FnExactSkipsTail.f k l0 l1 a2 = some true

end Go.Proofs.Yticpmgofegaaeaa.PFnExactSkipsTail
