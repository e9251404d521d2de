-- WRITTEN by pp.py, this session's own wrapper around the print; not trusted: Lean checks it
import Derived.Test.YticpmgofegaaeaaPFnDiffersx0
import Derived.Test.YticpmgofegaaeaaPFnDiffersx2
import Derived.Test.YticpmgofegaaeaaPFnDiffersx3
import Derived.Test.YticpmgofegaaeaaPFnDiffersx5
namespace Go.Proofs.Yticpmgofegaaeaa.PFnDiffers
open Go.RowKit Go.Proofs.Yticpmgofegaaeaa.Hw Go.Proofs.YticpmgofegaaeaaW.PrintWords Go.Proofs.YticpmgofegaaeaaW.PrintLast Go.Proofs.YticpmgofegaaeaaW.PrintMore
attribute [local go_sem] max2_int min2_int max_two min_two max_three min_three max_four min_four   -- for this text's walks alone
set_option linter.unusedVariables false
set_option linter.unusedSimpArgs false
set_option linter.unusedSectionVars false

/-! ### impl_readField: function 48 -/
def impl_readField.f (a0_0 : Int) (a0_1 : Int) (a0_2 : Int) (a0_3 : Int) (l1 : List Int) : Option (Int × List Int × Int × Bool) := if (l1.length : Int) = 0 then (some (0, ([] : List Int), 0, false)) else (if a0_0 = 1 then (if 0 < (l1.length : Int) then ((impl_FitsField.f a0_0 a0_1 a0_2 a0_3 (rd l1 0) ([] : List Int)).bind fun t212 => (some (rd l1 0, ([] : List Int), 1, t212))) else (none)) else (if 0 < (l1.length : Int) then ((impl_InRange.f (rd l1 0) 0 (mn a0_1 (wrap64 ((l1.length : Int) - 1)))).bind fun t214 => (if t214 = true then (if 1 ≤ (wrap64 (1 + (rd l1 0))) then (if (wrap64 (1 + (rd l1 0))) ≤ (l1.length : Int) then ((slices_Clone_int_int.f ((l1.take ((wrap64 (1 + (rd l1 0))) : Int).toNat).drop 1)).bind fun t217 => ((impl_FitsField.f a0_0 a0_1 a0_2 a0_3 0 t217).bind fun t222 => (some (0, t217, wrap64 (1 + (rd l1 0)), t222)))) else (none)) else (none)) else (some (0, ([] : List Int), 0, false)))) else (none)))
def impl_readField.T6 : Bool × List (List Nat × List Nat) := (true, [([], []), ([0], [0]), ([1], [1]), ([], []), ([3], [3]), ([], []), ([5], [5]), ([6], [6]), ([4, 7], [4, 7]), ([2, 8], [2, 8]), ([9], [9])])
def impl_readField.B6 : List Nat := [0, 1, 3, 0, 8, 0, 32, 96, 248, 511, 1023]
theorem impl_readField.tab6 : rtab .any (opsOf Try.f48 6) = impl_readField.T6 := by kernel_rfl
theorem impl_readField.bits6 : waitsOk impl_readField.T6.2 impl_readField.B6 = true := by kernel_rfl
def impl_readField.T9 : Bool × List (List Nat × List Nat) := (true, [([], []), ([], []), ([1], [1]), ([2], [2]), ([3], [3]), ([], []), ([], []), ([5, 6], [5, 6]), ([0, 7, 0], [0]), ([4, 8, 0, 1, 2, 3, 4, 8], [4]), ([7, 9, 0, 1, 2, 3, 4, 5, 6, 7, 8, 9], [7])])
def impl_readField.B9 : List Nat := [0, 0, 2, 6, 14, 0, 0, 96, 225, 511, 1023]
theorem impl_readField.tab9 : rtab .any (opsOf Try.f48 9) = impl_readField.T9 := by kernel_rfl
theorem impl_readField.bits9 : waitsOk impl_readField.T9.2 impl_readField.B9 = true := by kernel_rfl
set_option maxHeartbeats 8000000 in
set_option maxRecDepth 100000 in
theorem impl_readField.calls (a0_0 : Int) (a0_1 : Int) (a0_2 : Int) (a0_3 : Int) (A1 : Option Addr) (c1 : Nat) (l1 : List Int) (r1 : Int) (r2 : List Int) (r3 : Int) (r4 : Bool) (w : World) (hr1 : Kd.C (Kd.int .i64) w A1 l1.length l1) (hc1 : l1.length ≤ c1) (h : impl_readField.f a0_0 a0_1 a0_2 a0_3 l1 = some (r1, r2, r3, r4)) :
  Calls Try.prog 48 #[.agg #[.int .i64 a0_0, .int .i64 a0_1, .int .i64 a0_2, .int .i64 a0_3], .slice A1 l1.length c1] w fun e w' => ∃ v1_ : Value, e = .returned (.tuple #[.agg #[.int .i64 r1, v1_], .int .i64 r3, .bool r4]) ∧ Kd.R (Kd.int .i64) 3 w' w.heap.size (fun _ => True) v1_ r2 ∧ Below w.heap.size w w' := by
 have hu47 := Try.underlying47
 have hu58 := Try.underlying58
 have HR1 := Aside0.mk hr1
 have HC1 := Aside0.mk hc1
 clear hr1 hc1
 have HB := Aside0.mk (Below.refl w.heap.size w)
 have H : (if (l1.length : Int) = 0 then (some (0, ([] : List Int), 0, false)) else (if a0_0 = 1 then (if 0 < (l1.length : Int) then ((impl_FitsField.f a0_0 a0_1 a0_2 a0_3 (rd l1 0) ([] : List Int)).bind fun t212 => (some (rd l1 0, ([] : List Int), 1, t212))) else (none)) else (if 0 < (l1.length : Int) then ((impl_InRange.f (rd l1 0) 0 (mn a0_1 (wrap64 ((l1.length : Int) - 1)))).bind fun t214 => (if t214 = true then (if 1 ≤ (wrap64 (1 + (rd l1 0))) then (if (wrap64 (1 + (rd l1 0))) ≤ (l1.length : Int) then ((slices_Clone_int_int.f ((l1.take ((wrap64 (1 + (rd l1 0))) : Int).toNat).drop 1)).bind fun t217 => ((impl_FitsField.f a0_0 a0_1 a0_2 a0_3 0 t217).bind fun t222 => (some (0, t217, wrap64 (1 + (rd l1 0)), t222)))) else (none)) else (none)) else (some (0, ([] : List Int), 0, false)))) else (none)))) = some (r1, r2, r3, r4) := h
 clear h
 by_cases c3 : (l1.length : Int) = 0
 ·rw [if_pos c3] at H
  have c3b0 : ((l1.length : Int) == 0) = true := beq_iff_eq.mpr c3
  have c3b1 : ((l1.length : Int) != 0) = false := bne_eq_false_iff_eq.mpr c3
  clear c3
  simp only [Option.some.injEq, Prod.mk.injEq] at H
  obtain ⟨rfl, rfl, rfl, rfl⟩ := H
  go_enter Try.func48, Try.ntmps48
  go_wp2_with (first | ((with_reducible refine gate_dst (N := 2) rfl ?_); refine box_event ?hg (N := 2) ?hd (cs := #[.int .i64 a0_0, .int .i64 a0_1, .int .i64 a0_2, .int .i64 a0_3]) (t := 47) ?hr ?_; (case hd => rfl); (case hg => rfl); (case hr => first | (go_simp; done) | (go_simp; rfl)); intro gb208 hg w4 hbox hb; have BK208 := Aside0.mk (hbox); have GW208 := gS HB hg; have GE208 := gS HB hg; replace HB := bS HB hb; clear hb hbox hg) | ((with_reducible refine gate_dst (N := 4) rfl ?_); refine box_event ?hg (N := 4) ?hd (cs := #[.int .i64 0, .slice none 0 0]) (t := 58) ?hr ?_; (case hd => rfl); (case hg => rfl); (case hr => first | (go_simp; done) | (go_simp; rfl)); intro gb209 hg w5 hbox hb; have BK209 := Aside0.mk (hbox); have GW209 := gS HB hg; have GE209 := gS HB hg; replace HB := bS HB hb; have NB208_209 := nL BK208 hg; have NB209_208 := nR BK208 hg; replace BK208 := kB BK208 hb; clear hb hbox hg; have hnb6 := NB209_208.out; have hnc6 := NB208_209.out; have hcz7_0 := bc0 BK209; have hcz7_1 := bc1 BK209; have hfz7_0 := bf BK209 0; have hfz7_1 := bf BK209 1))
  refine bodyPost_ret (results_ctt rfl _ _ gb209 58 #[.int .i64 0, .slice none 0 0] (0, 0) _ rfl (by (with_reducible repeat (first | refine blk_drewN ?_ _ | refine blk_drew ?_ | refine blk_alloc ?_ _)); refine blk_put (cs := #[.int .i64 0, .slice none 0 0]) ?_ 1 _ rfl; (with_reducible repeat (first | refine blk_drewN ?_ _ | refine blk_drew ?_ | refine blk_alloc ?_ _)); refine blk_put (cs := #[.int .i64 0, .slice none 0 0]) ?_ 0 _ rfl; (with_reducible repeat (first | refine blk_drewN ?_ _ | refine blk_drew ?_ | refine blk_alloc ?_ _)); exact BK209.out) Try.underlying58 rfl (by kernel_rfl)) rfl ?_
  exact ⟨_, zE, by first | exact Kd.R_nil _ _ _ _ _ | exact Kd.N_nil _ _ _ _ _ | exact Kd.V_nil _ _ _ _ _ | exact Kd.Q_nil _ _ _ _ _ | exact Kd.S_nil _ _ _ _ _, zB HB⟩
 ·rw [if_neg c3] at H
  have c3b0 : ((l1.length : Int) == 0) = false := beq_eq_false_iff_ne.mpr c3
  have c3b1 : ((l1.length : Int) != 0) = true := bne_iff_ne.mpr c3
  have c3b2 : ¬ (l1 = []) := fun h_ => c3 (by rw [h_]; rfl)
  by_cases c8 : a0_0 = 1
  ·rw [if_pos c8] at H
   have c8b0 : (a0_0 == 1) = true := beq_iff_eq.mpr c8
   have c8b1 : (a0_0 != 1) = false := bne_eq_false_iff_eq.mpr c8
   clear c8
   obtain ⟨c9, H⟩ := ifS H
   have c9b0 : decide (0 < (l1.length : Int)) = true := decide_eq_true c9
   have c9b1 : decide (0 < l1.length) = true := decide_eq_true (by omega)
   clear c9
   obtain ⟨t212, A10, H⟩ := bindS H
   simp only [Option.some.injEq, Prod.mk.injEq] at H
   obtain ⟨rfl, rfl, rfl, rfl⟩ := H
   go_enter Try.func48, Try.ntmps48
   try go_wp2_with (first | ((with_reducible refine gate_dst (N := 2) rfl ?_); refine box_event ?hg (N := 2) ?hd (cs := #[.int .i64 a0_0, .int .i64 a0_1, .int .i64 a0_2, .int .i64 a0_3]) (t := 47) ?hr ?_; (case hd => rfl); (case hg => rfl); (case hr => first | (go_simp; done) | (go_simp; rfl)); intro gb208 hg w11 hbox hb; have BK208 := Aside0.mk (hbox); have GW208 := gS HB hg; have GE208 := gS HB hg; replace HB := bS HB hb; clear hb hbox hg) | ((with_reducible refine gate_dst (N := 4) rfl ?_); refine box_event ?hg (N := 4) ?hd (cs := #[.int .i64 0, .slice none 0 0]) (t := 58) ?hr ?_; (case hd => rfl); (case hg => rfl); (case hr => first | (go_simp; done) | (go_simp; rfl)); intro gb209 hg w12 hbox hb; have BK209 := Aside0.mk (hbox); have GW209 := gS HB hg; have GE209 := gS HB hg; replace HB := bS HB hb; have NB208_209 := nL BK208 hg; have NB209_208 := nR BK208 hg; replace BK208 := kB BK208 hb; clear hb hbox hg; have hnb13 := NB208_209.out; have hnc13 := NB209_208.out; have hcz14_0 := bc0 BK208; have hcz14_1 := bc1 BK208; have hcz14_2 := bc2 BK208; have hcz14_3 := bc3 BK208; have hfz14_0 := bf BK208 0; have hfz14_1 := bf BK208 1; have hfz14_2 := bf BK208 2; have hfz14_3 := bf BK208 3; have p210 : 0 ≤ (0 : Int) := (by omega); have q210 : 0 < (l1.length : Int) := zD; obtain ⟨ad210, e210, hx210_0⟩ := Kd.at_int HR1.out 0 p210 q210; cases e210; have qi210 : (0 < l1.length) = True := eq_true (by omega); (try rw [show ((0 : Int)).toNat = 0 from rfl] at hx210_0); (try rw [Addr.add_zero'] at hx210_0); replace hx210_0 := hL HB hx210_0; replace p210 := eq_true p210; replace q210 := eq_true q210) | ((with_reducible refine gate_dst (N := 7) rfl ?_); refine box_event ?hg (N := 7) ?hd (cs := #[.int .i64 0, .slice none 0 0]) (t := 58) ?hr ?_; (case hd => rfl); (case hg => rfl); (case hr => first | (go_simp; done) | (go_simp; rfl)); intro gb211 hg w15 hbox hb; have BK211 := Aside0.mk (hbox); have GW211 := gS HB hg; have GE211 := gS HB hg; replace HB := bS HB hb; have NB208_211 := nL BK208 hg; have NB211_208 := nR BK208 hg; replace BK208 := kB BK208 hb; have NB209_211 := nL BK209 hg; have NB211_209 := nR BK209 hg; replace BK209 := kB BK209 hb; clear hb hbox hg; have hnb16 := NB211_208.out; have hnc16 := NB208_211.out; have hnb17 := NB211_209.out; have hnc17 := NB209_211.out; have hcz18_0 := bc0 BK211; have hcz18_1 := bc1 BK211; have hfz18_0 := bf BK211 0; have hfz18_1 := bf BK211 1))
   have n0_ : Aside0 (((w15.setCell ⟨gb211, 0, none⟩ (.int .i64 (rd l1 0))).setCell ⟨gb211, 1, none⟩ (.slice none 0 0)).heap[gb208]? = some (.cells #[.int .i64 a0_0, .int .i64 a0_1, .int .i64 a0_2, .int .i64 a0_3] 47 (0, 0))) := ⟨by (with_reducible repeat (first | refine blk_drewN ?_ _ | refine blk_drew ?_ | refine blk_alloc ?_ _)); refine blk_far ?_ NB208_211.out _; (with_reducible repeat (first | refine blk_drewN ?_ _ | refine blk_drew ?_ | refine blk_alloc ?_ _)); refine blk_far ?_ NB208_211.out _; (with_reducible repeat (first | refine blk_drewN ?_ _ | refine blk_drew ?_ | refine blk_alloc ?_ _)); exact BK208.out⟩
   have n1_ : Aside0 (((w15.setCell ⟨gb211, 0, none⟩ (.int .i64 (rd l1 0))).setCell ⟨gb211, 1, none⟩ (.slice none 0 0)).heap[gb209]? = some (.cells #[.int .i64 0, .slice none 0 0] 58 (0, 0))) := ⟨by (with_reducible repeat (first | refine blk_drewN ?_ _ | refine blk_drew ?_ | refine blk_alloc ?_ _)); refine blk_far ?_ NB209_211.out _; (with_reducible repeat (first | refine blk_drewN ?_ _ | refine blk_drew ?_ | refine blk_alloc ?_ _)); refine blk_far ?_ NB209_211.out _; (with_reducible repeat (first | refine blk_drewN ?_ _ | refine blk_drew ?_ | refine blk_alloc ?_ _)); exact BK209.out⟩
   have n2_ : Aside0 (((w15.setCell ⟨gb211, 0, none⟩ (.int .i64 (rd l1 0))).setCell ⟨gb211, 1, none⟩ (.slice none 0 0)).heap[gb211]? = some (.cells #[.int .i64 (rd l1 0), .slice none 0 0] 58 (0, 0))) := ⟨by (with_reducible repeat (first | refine blk_drewN ?_ _ | refine blk_drew ?_ | refine blk_alloc ?_ _)); refine blk_put (cs := #[.int .i64 (rd l1 0), .slice none 0 0]) ?_ 1 _ rfl; (with_reducible repeat (first | refine blk_drewN ?_ _ | refine blk_drew ?_ | refine blk_alloc ?_ _)); refine blk_put (cs := #[.int .i64 0, .slice none 0 0]) ?_ 0 _ rfl; (with_reducible repeat (first | refine blk_drewN ?_ _ | refine blk_drew ?_ | refine blk_alloc ?_ _)); exact BK211.out⟩
   have n3_ : Aside0 (Below w.heap.size w ((w15.setCell ⟨gb211, 0, none⟩ (.int .i64 (rd l1 0))).setCell ⟨gb211, 1, none⟩ (.slice none 0 0))) := ⟨zB HB⟩
   (try clear BK208)
   (try clear BK209)
   (try clear BK211)
   (try clear HB)
   generalize ((w15.setCell ⟨gb211, 0, none⟩ (.int .i64 (rd l1 0))).setCell ⟨gb211, 1, none⟩ (.slice none 0 0)) = w19 at n0_ n1_ n2_ n3_ ⊢
   have BK208 := n0_
   have BK209 := n1_
   have BK211 := n2_
   have HB := n3_
   clear n0_ n1_ n2_ n3_
   replace BK208 := Aside0.mk (blk_drew BK208.out)
   replace BK209 := Aside0.mk (blk_drew BK209.out)
   replace BK211 := Aside0.mk (blk_drew BK211.out)
   replace HB := Aside0.mk (below_drew1 HB.out)
   refine start_ (n := 7) (S := fun w' => w'.cell? ⟨gb211, 0, none⟩ = some (.int .i64 (rd l1 0)) ∧ w'.cell? ⟨gb211, 1, none⟩ = some (.slice none 0 0) ∧ w'.cell? ⟨gb208, 0, none⟩ = some (.int .i64 a0_0) ∧ w'.cell? ⟨gb208, 1, none⟩ = some (.int .i64 a0_1) ∧ w'.cell? ⟨gb208, 2, none⟩ = some (.int .i64 a0_2) ∧ w'.cell? ⟨gb208, 3, none⟩ = some (.int .i64 a0_3)) (ds := []) (bm 7 0) (by kernel_rfl) rfl (bm0 _) ⟨bc0 BK211, bc1 BK211, bc0 BK208, bc1 BK208, bc2 BK208, bc3 BK208⟩ (fun hHeld => ?_)
   generalize w19.drew = w20 at BK208 BK209 BK211 HB hHeld ⊢
   refine take_ (i := 0) (N := some 20) (v := ?_) (a' := ?_) (bm 7 1) rfl rfl (by kernel_rfl) (fun _ _ _ h => h) (Or.inl ⟨by rfl, ?_⟩) hHeld ?_ ?_
   rotate_left
   ·rintro w' ⟨s0, s1, s2, s3, s4, s5⟩
    go_simp
    with_reducible rfl
   rotate_left
   ·simp only [Act.put, List.setIfInBounds_toArray, List.set_cons_zero, List.set_cons_succ, i64_w, i32_w]
    rfl
   refine take_ (i := 1) (N := some 21) (v := ?_) (a' := ?_) (bm 7 3) rfl rfl (by kernel_rfl) (fun _ _ _ h => h) (Or.inl ⟨by rfl, ?_⟩) hHeld ?_ ?_
   rotate_left
   ·rintro w' ⟨s0, s1, s2, s3, s4, s5⟩
    go_simp
    with_reducible rfl
   rotate_left
   ·simp only [Act.put, List.setIfInBounds_toArray, List.set_cons_zero, List.set_cons_succ, i64_w, i32_w]
    rfl
   refine take_ (i := 2) (N := some 22) (v := ?_) (a' := ?_) (bm 7 7) rfl rfl (by kernel_rfl) (fun _ _ _ h => h) (Or.inl ⟨by rfl, ?_⟩) hHeld ?_ ?_
   rotate_left
   ·rintro w' ⟨s0, s1, s2, s3, s4, s5⟩
    go_simp
    with_reducible rfl
   rotate_left
   ·simp only [Act.put, List.setIfInBounds_toArray, List.set_cons_zero, List.set_cons_succ, i64_w, i32_w]
    rfl
   refine one_ (i := 3) (N := some 23) (bm 7 15) rfl rfl (by kernel_rfl) (by decide) (fun K hK => ?_)
   refine goes_ Try.func62 (by kernel_rfl) rfl #[.agg #[.int .i64 a0_0, .int .i64 a0_1, .int .i64 a0_2, .int .i64 a0_3], .agg #[.int .i64 (rd l1 0), .slice none 0 0]] (by rfl) rfl rfl zG ?_
   refine (impl_FitsField.calls a0_0 a0_1 a0_2 a0_3 (rd l1 0) _ _ ([] : List Int) t212 _ ?side1 ?side2 A10.out).mono ?_
   (case side1 => exact Kd.C_nil _ _)
   (case side2 => exact Nat.le_refl _)
   rintro e w21 ⟨rfl, hb⟩
   refine ⟨_, rfl, ?_⟩
   replace BK208 := kB BK208 hb
   replace BK209 := kB BK209 hb
   replace BK211 := kB BK211 hb
   replace HB := bS HB hb
   (try clear hb)
   (try clear hb2)
   (try clear hk)
   (try clear hi)
   refine hK.out _ _ ⟨bc0 BK211, bc1 BK211, bc0 BK208, bc1 BK208, bc2 BK208, bc3 BK208⟩ (fun hHeld => ?_)
   clear hK K
   refine norm_ (a' := ?_) ?_ ?_
   rotate_left
   ·show Act.put _ (some 23) _ = _
    simp only [Act.put, List.setIfInBounds_toArray, List.set_cons_zero, List.set_cons_succ, i64_w, i32_w]
    rfl
   refine one_ (i := 4) (N := none) (bm 7 31) rfl rfl (by kernel_rfl) (by decide) (fun K hK => ?_)
   have hs22 : w21.cell? ⟨gb209, 0, none⟩ = some (.int .i64 0) := bc0 BK209
   have hfs22 := bf BK209 0
   have hns22_0 := NB208_209.out
   have hns22_2 := NB211_209.out
   have hms22_0 := NB209_208.out
   have hms22_2 := NB209_211.out
   have hs23 : w21.cell? ⟨gb209, 1, none⟩ = some (.slice none 0 0) := bc1 BK209
   have hfs23 := bf BK209 1
   have hns23_0 := NB208_209.out
   have hns23_2 := NB211_209.out
   have hms23_0 := NB209_208.out
   have hms23_2 := NB209_211.out
   refine skip_ (w1 := ?_) (by rfl) rfl ?_ ?_
   rotate_left
   ·go_simp
    rfl
   refine hK.out _ _ ⟨((cell_far (p := ⟨gb209, _, none⟩) NB211_209.out _).trans (((cell_far (p := ⟨gb209, _, none⟩) NB211_209.out _).trans (hHeld.1)))), ((cell_far (p := ⟨gb209, _, none⟩) NB211_209.out _).trans (((cell_far (p := ⟨gb209, _, none⟩) NB211_209.out _).trans (hHeld.2.1)))), ((cell_far (p := ⟨gb209, _, none⟩) NB208_209.out _).trans (((cell_far (p := ⟨gb209, _, none⟩) NB208_209.out _).trans (hHeld.2.2.1)))), ((cell_far (p := ⟨gb209, _, none⟩) NB208_209.out _).trans (((cell_far (p := ⟨gb209, _, none⟩) NB208_209.out _).trans (hHeld.2.2.2.1)))), ((cell_far (p := ⟨gb209, _, none⟩) NB208_209.out _).trans (((cell_far (p := ⟨gb209, _, none⟩) NB208_209.out _).trans (hHeld.2.2.2.2.1)))), ((cell_far (p := ⟨gb209, _, none⟩) NB208_209.out _).trans (((cell_far (p := ⟨gb209, _, none⟩) NB208_209.out _).trans (hHeld.2.2.2.2.2))))⟩ (fun hHeld => ?_)
   clear hK K
   refine pure_ (i := 5) (N := some 5) (v := ?_) (a' := ?_) (bm 7 63) rfl rfl (by kernel_rfl) (fun _ _ _ h => h) (Or.inl ⟨by rfl, ?_⟩) ?_ ?_
   rotate_left
   ·intro w'
    go_simp
    with_reducible rfl
   rotate_left
   ·simp only [Act.put, List.setIfInBounds_toArray, List.set_cons_zero, List.set_cons_succ, i64_w, i32_w]
    rfl
   refine pure_ (i := 6) (N := some 6) (v := ?_) (a' := ?_) (bm 7 127) rfl rfl (by kernel_rfl) (fun _ _ _ h => h) (Or.inl ⟨by rfl, ?_⟩) ?_ ?_
   rotate_left
   ·intro w'
    go_simp
    with_reducible rfl
   rotate_left
   ·simp only [Act.put, List.setIfInBounds_toArray, List.set_cons_zero, List.set_cons_succ, i64_w, i32_w]
    rfl
   refine done_ (by kernel_rfl) ?_
   try clear hHeld
   try go_wp2
   refine bodyPost_ret (results_ctt rfl _ _ gb209 58 #[.int .i64 (rd l1 0), .slice none 0 0] (0, 0) _ rfl (by (with_reducible repeat (first | refine blk_drewN ?_ _ | refine blk_drew ?_ | refine blk_alloc ?_ _)); refine blk_put (cs := #[.int .i64 (rd l1 0), .slice none 0 0]) ?_ 1 _ rfl; (with_reducible repeat (first | refine blk_drewN ?_ _ | refine blk_drew ?_ | refine blk_alloc ?_ _)); refine blk_put (cs := #[.int .i64 0, .slice none 0 0]) ?_ 0 _ rfl; (with_reducible repeat (first | refine blk_drewN ?_ _ | refine blk_drew ?_ | refine blk_alloc ?_ _)); exact BK209.out) Try.underlying58 rfl (by kernel_rfl)) rfl ?_
   exact ⟨_, zE, by first | exact Kd.R_nil _ _ _ _ _ | exact Kd.N_nil _ _ _ _ _ | exact Kd.V_nil _ _ _ _ _ | exact Kd.Q_nil _ _ _ _ _ | exact Kd.S_nil _ _ _ _ _, zB HB⟩
  ·rw [if_neg c8] at H
   have c8b0 : (a0_0 == 1) = false := beq_eq_false_iff_ne.mpr c8
   have c8b1 : (a0_0 != 1) = true := bne_iff_ne.mpr c8
   by_cases c24 : 0 < (l1.length : Int)
   ·rw [if_pos c24] at H
    have c24b0 : decide (0 < (l1.length : Int)) = true := decide_eq_true c24
    have c24b1 : decide (0 < l1.length) = true := decide_eq_true (by omega)
    clear c24
    obtain ⟨ji25, hji25⟩ : ∃ j_ : Int, (mn a0_1 (wrap64 ((l1.length : Int) - 1))) = j_ := ⟨_, rfl⟩
    replace H : ((impl_InRange.f (rd l1 0) 0 (ji25)).bind fun t214 => (if t214 = true then (if 1 ≤ (wrap64 (1 + (rd l1 0))) then (if (wrap64 (1 + (rd l1 0))) ≤ (l1.length : Int) then ((slices_Clone_int_int.f ((l1.take ((wrap64 (1 + (rd l1 0))) : Int).toNat).drop 1)).bind fun t217 => ((impl_FitsField.f a0_0 a0_1 a0_2 a0_3 0 t217).bind fun t222 => (some (0, t217, wrap64 (1 + (rd l1 0)), t222)))) else (none)) else (none)) else (some (0, ([] : List Int), 0, false)))) = some (r1, r2, r3, r4) := by first | (rw [hji25] at H; exact H) | (simp only [hji25] at H ⊢; exact H)
    have hji25_ : (if (wrap64 ((l1.length : Int) - 1)) < a0_1 then (wrap64 ((l1.length : Int) - 1)) else a0_1) = ji25 := hji25
    obtain ⟨t214, A26, H⟩ := bindS H
    by_cases c27 : t214 = true
    ·subst c27
     have H1 : (if 1 ≤ (wrap64 (1 + (rd l1 0))) then (if (wrap64 (1 + (rd l1 0))) ≤ (l1.length : Int) then ((slices_Clone_int_int.f ((l1.take ((wrap64 (1 + (rd l1 0))) : Int).toNat).drop 1)).bind fun t217 => ((impl_FitsField.f a0_0 a0_1 a0_2 a0_3 0 t217).bind fun t222 => (some (0, t217, wrap64 (1 + (rd l1 0)), t222)))) else (none)) else (none)) = some (r1, r2, r3, r4) := by rw [if_pos rfl] at H; exact H
     clear H
     have H := H1
     clear H1
     obtain ⟨c28, H⟩ := ifS H
     have c28b0 := eq_true c28
     have c28b1 : decide (1 ≤ (wrap64 (1 + (rd l1 0)))) = true := decide_eq_true c28
     obtain ⟨c29, H⟩ := ifS H
     have c29b0 := eq_true c29
     have c29b1 : decide ((wrap64 (1 + (rd l1 0))) ≤ (l1.length : Int)) = true := decide_eq_true c29
     obtain ⟨t217, A30, H⟩ := bindS H
     obtain ⟨t222, A31, H⟩ := bindS H
     simp only [Option.some.injEq, Prod.mk.injEq] at H
     obtain ⟨rfl, rfl, rfl, rfl⟩ := H
     go_enter Try.func48, Try.ntmps48
     try go_wp2_with (first | ((with_reducible refine gate_dst (N := 2) rfl ?_); refine box_event ?hg (N := 2) ?hd (cs := #[.int .i64 a0_0, .int .i64 a0_1, .int .i64 a0_2, .int .i64 a0_3]) (t := 47) ?hr ?_; (case hd => rfl); (case hg => rfl); (case hr => first | (go_simp; done) | (go_simp; rfl)); intro gb208 hg w32 hbox hb; have BK208 := Aside0.mk (hbox); have GW208 := gS HB hg; have GE208 := gS HB hg; replace HB := bS HB hb; clear hb hbox hg) | ((with_reducible refine gate_dst (N := 4) rfl ?_); refine box_event ?hg (N := 4) ?hd (cs := #[.int .i64 0, .slice none 0 0]) (t := 58) ?hr ?_; (case hd => rfl); (case hg => rfl); (case hr => first | (go_simp; done) | (go_simp; rfl)); intro gb209 hg w33 hbox hb; have BK209 := Aside0.mk (hbox); have GW209 := gS HB hg; have GE209 := gS HB hg; replace HB := bS HB hb; have NB208_209 := nL BK208 hg; have NB209_208 := nR BK208 hg; replace BK208 := kB BK208 hb; clear hb hbox hg; have hnb34 := NB208_209.out; have hnc34 := NB209_208.out; have hcz35_0 := bc0 BK208; have hcz35_1 := bc1 BK208; have hcz35_2 := bc2 BK208; have hcz35_3 := bc3 BK208; have hfz35_0 := bf BK208 0; have hfz35_1 := bf BK208 1; have hfz35_2 := bf BK208 2; have hfz35_3 := bf BK208 3))
     replace BK208 := Aside0.mk (blk_drew BK208.out)
     replace BK209 := Aside0.mk (blk_drew BK209.out)
     replace HB := Aside0.mk (below_drew1 HB.out)
     have p213 : 0 ≤ (0 : Int) := (by omega)
     have q213 : 0 < (l1.length : Int) := zD
     obtain ⟨ad213, e213, hx213_0⟩ := Kd.at_int HR1.out 0 p213 q213
     have hw213_0 := hx213_0
     (try rw [show ((0 : Int)).toNat = 0 from rfl] at hw213_0)
     (try rw [show 0 * 1 = 0 from rfl] at hw213_0)
     (try rw [Addr.add_zero'] at hw213_0)
     cases e213
     have qi213 : (0 < l1.length) = True := eq_true (by omega)
     (try rw [show ((0 : Int)).toNat = 0 from rfl] at hx213_0)
     (try rw [Addr.add_zero'] at hx213_0)
     replace hx213_0 := hL HB hx213_0
     replace p213 := eq_true p213
     replace q213 := eq_true q213
     refine start_ (n := 11) (S := fun w' => w'.cell? ⟨gb208, 0, none⟩ = some (.int .i64 a0_0) ∧ w'.cell? ⟨gb208, 1, none⟩ = some (.int .i64 a0_1) ∧ w'.cell? ⟨gb208, 2, none⟩ = some (.int .i64 a0_2) ∧ w'.cell? ⟨gb208, 3, none⟩ = some (.int .i64 a0_3) ∧ w'.cell? ad213 = some (.int .i64 (rd l1 0))) (ds := []) (bm 11 0) (by kernel_rfl) rfl (bm0 _) ⟨bc0 BK208, bc1 BK208, bc2 BK208, bc3 BK208, (hL HB hw213_0)⟩ (fun hHeld => ?_); refine with_tabW impl_readField.tab6 impl_readField.bits6 (fun HT_ HW_ => ?_)
     generalize w33.drew = w36 at BK208 BK209 HB hx213_0 hHeld ⊢
     refine pU 0 (some 24) (bm 11 1) HT_ rfl rfl ?_
     refine pU 1 (some 25) (bm 11 3) HT_ rfl rfl ?_
     refine pU 3 (some 27) (bm 11 11) HT_ rfl rfl ?_
     refine pU 5 (some 29) (bm 11 43) HT_ rfl rfl ?_
     refine pU 6 (some 30) (bm 11 107) HT_ rfl rfl ?_
     refine pU 7 (some 31) (bm 11 235) HT_ rfl rfl ?_
     refine tU 2 (some 26) (bm 11 239) HT_ HW_ rfl rfl hHeld ?_
     refine tU 4 (some 28) (bm 11 255) HT_ HW_ rfl rfl hHeld ?_
     refine pU 8 (some 32) (bm 11 511) HT_ rfl rfl ?_
     refine one_ (i := 9) (N := some 33) (bm 11 1023) rfl rfl (one_of HT_.out (by kernel_rfl)) (by decide) (fun K hK => ?_)
     refine goes_ Try.func33 (by kernel_rfl) rfl #[.int .i64 (rd l1 0), .int .i64 0, .int .i64 ji25] (by rfl) rfl rfl (by (try simp only [List.map_toArray, List.map_cons, List.map_nil]); first | done | (simp only [hji25]; rfl) | rfl | (simp only [List.length_drop, List.length_take]; rfl)) ?_
     with_reducible refine (impl_InRange.calls (rd l1 0) 0 ji25 true _ A26.out).mono ?_
     rintro e w' ⟨rfl, ⟨nd, rfl⟩⟩
     refine ⟨_, rfl, ?_⟩
     refine hK.out _ _ ⟨bc0 BK208, bc1 BK208, bc2 BK208, bc3 BK208, (hL HB hw213_0)⟩ (fun hHeld => ?_)
     clear hK K
     refine norm_ (a' := ?_) ?_ ?_
     rotate_left
     ·show Act.put _ (some 33) _ = _
      simp only [Act.put, List.setIfInBounds_toArray, List.set_cons_zero, List.set_cons_succ, i64_w, i32_w]
      rfl
     refine pU 10 (some 34) (bm 11 2047) HT_ rfl rfl ?_
     refine done_ (done_of HT_.out (by kernel_rfl)) ?_
     try clear hHeld
     have p215 : 0 ≤ (0 : Int) := (by omega)
     have q215 : 0 < (l1.length : Int) := zD
     obtain ⟨ad215, e215, hx215_0⟩ := Kd.at_int HR1.out 0 p215 q215
     obtain rfl : ad213 = ad215 := (by injection e215)
     have qi215 : (0 < l1.length) = True := eq_true (by omega)
     (try rw [show ((0 : Int)).toNat = 0 from rfl] at hx215_0)
     (try rw [Addr.add_zero'] at hx215_0)
     replace hx215_0 := hL HB hx215_0
     replace p215 := eq_true p215
     replace q215 := eq_true q215
     obtain ⟨i037, hi037, _, hsz37, _⟩ := info_parts info3
     obtain ⟨A37, hcut37, hA37, hC37⟩ := print_mid_of (P := Try.prog) (Value.int .i64) 0 37 3 .i64 .i64 Try.underlying37 hi037 hsz37 (some ad213) c1 l1 1 (wrap64 (1 + (rd l1 0))) (by omega) (by first | omega | exact zD) (zD) HC1.out
     have HR216 := Aside0.mk (Kd.C_of_reads (h1 := fun _ => rfl) (hA37 _ (Kd.reads_of_C HR1.out)))
     have HC216 := Aside0.mk hC37
     clear hA37 hC37 hi037 hsz37
     try go_wp2_with (first | ((with_reducible refine gate_callee (f := 63) rfl ?_); refine goesL_ (some 42) rfl rfl Try.func63 (by kernel_rfl) rfl #[.slice A37 ((l1.take ((wrap64 (1 + (rd l1 0))) : Int).toNat).drop 1).length (c1 - 1)] rfl (by (try simp only [List.map_toArray, List.map_cons, List.map_nil]); first | done | (rw [show ((l1.take ((wrap64 (1 + (rd l1 0))) : Int).toNat).drop 1).length = ((wrap64 (1 + (rd l1 0))).toNat - 1) from (by rw [List.length_drop, List.length_take]; have h_ : ((wrap64 (1 + (rd l1 0))) : Int) ≤ (l1.length : Int) := zD; omega)] <;> rfl) | rfl | (simp only [List.length_drop, List.length_take]; rfl)) ?_; (with_reducible refine (slices_Clone_int_int.calls _ _ ((l1.take ((wrap64 (1 + (rd l1 0))) : Int).toNat).drop 1) t217 _ ?side1 ?side2 A30.out).mono ?_); (case side1 => repeat (first | exact (Kd.C_below HR216.out (zB HB)) | (with_reducible refine Kd.C_alloc ?_ _) | (with_reducible refine Kd.C_drewN ?_ _) | (with_reducible refine Kd.C_drew ?_))); (case side2 => exact HC216.out); rintro e w38 ⟨v218, rfl, ho0, hb⟩; refine ⟨_, rfl, ?_⟩; have HO219 := Aside0.mk (Kd.R_lower ho0 (below_size (zB HB))); replace BK208 := kB BK208 hb; replace BK209 := kB BK209 hb; replace HB := bS HB hb; (try clear hb); (try clear ho0); obtain ⟨Ao39, co39, eo39⟩ := Kd.R_slice HO219.out; subst eo39) | ((with_reducible refine gate_dst (N := 8) rfl ?_); refine box_event ?hg (N := 8) ?hd (cs := #[.int .i64 0, .slice none 0 0]) (t := 58) ?hr ?_; (case hd => rfl); (case hg => rfl); (case hr => first | (go_simp; done) | (go_simp; rfl)); intro gb220 hg w40 hbox hb; replace HO219 := Aside0.mk (Kd.R_below (zR HO219) hb); have BK220 := Aside0.mk (hbox); have GW220 := gS HB hg; have GE220 := gS HB hg; replace HB := bS HB hb; have NB208_220 := nL BK208 hg; have NB220_208 := nR BK208 hg; replace BK208 := kB BK208 hb; have NB209_220 := nL BK209 hg; have NB220_209 := nR BK209 hg; replace BK209 := kB BK209 hb; clear hb hbox hg; have hnb41 := NB220_208.out; have hnc41 := NB208_220.out; have hnb42 := NB220_209.out; have hnc42 := NB209_220.out; have hcz43_0 := bc0 BK220; have hcz43_1 := bc1 BK220; have hfz43_0 := bf BK220 0; have hfz43_1 := bf BK220 1))
     have n0_ : Aside0 (Kd.R (Kd.int .i64) 3 ((w40.setCell ⟨gb220, 0, none⟩ (.int .i64 0)).setCell ⟨gb220, 1, none⟩ (.slice Ao39 t217.length co39)) w.heap.size (fun _ => True) (.slice Ao39 t217.length co39) t217) := ⟨by (with_reducible repeat (first | apply Kd.R_alloc | apply Kd.R_drewN | apply Kd.R_drew)); exact Kd.R_mono (Kd.R_far (p := ⟨gb220, 1, none⟩) (Kd.R_far (p := ⟨gb220, 0, none⟩) (Kd.R_types HO219.out BK220.out (by decide)) (fun _ hk => hk.2) (.int .i64 0)) (fun _ hk => hk.2) (.slice Ao39 t217.length co39)) (fun _ hk => trivial)⟩
     have n1_ : Aside0 (((w40.setCell ⟨gb220, 0, none⟩ (.int .i64 0)).setCell ⟨gb220, 1, none⟩ (.slice Ao39 t217.length co39)).heap[gb208]? = some (.cells #[.int .i64 a0_0, .int .i64 a0_1, .int .i64 a0_2, .int .i64 a0_3] 47 (0, 0))) := ⟨by (with_reducible repeat (first | refine blk_drewN ?_ _ | refine blk_drew ?_ | refine blk_alloc ?_ _)); refine blk_far ?_ NB208_220.out _; (with_reducible repeat (first | refine blk_drewN ?_ _ | refine blk_drew ?_ | refine blk_alloc ?_ _)); refine blk_far ?_ NB208_220.out _; (with_reducible repeat (first | refine blk_drewN ?_ _ | refine blk_drew ?_ | refine blk_alloc ?_ _)); exact BK208.out⟩
     have n2_ : Aside0 (((w40.setCell ⟨gb220, 0, none⟩ (.int .i64 0)).setCell ⟨gb220, 1, none⟩ (.slice Ao39 t217.length co39)).heap[gb209]? = some (.cells #[.int .i64 0, .slice none 0 0] 58 (0, 0))) := ⟨by (with_reducible repeat (first | refine blk_drewN ?_ _ | refine blk_drew ?_ | refine blk_alloc ?_ _)); refine blk_far ?_ NB209_220.out _; (with_reducible repeat (first | refine blk_drewN ?_ _ | refine blk_drew ?_ | refine blk_alloc ?_ _)); refine blk_far ?_ NB209_220.out _; (with_reducible repeat (first | refine blk_drewN ?_ _ | refine blk_drew ?_ | refine blk_alloc ?_ _)); exact BK209.out⟩
     have n3_ : Aside0 (((w40.setCell ⟨gb220, 0, none⟩ (.int .i64 0)).setCell ⟨gb220, 1, none⟩ (.slice Ao39 t217.length co39)).heap[gb220]? = some (.cells #[.int .i64 0, .slice Ao39 t217.length co39] 58 (0, 0))) := ⟨by (with_reducible repeat (first | refine blk_drewN ?_ _ | refine blk_drew ?_ | refine blk_alloc ?_ _)); refine blk_put (cs := #[.int .i64 0, .slice none 0 0]) ?_ 1 _ rfl; (with_reducible repeat (first | refine blk_drewN ?_ _ | refine blk_drew ?_ | refine blk_alloc ?_ _)); refine blk_put (cs := #[.int .i64 0, .slice none 0 0]) ?_ 0 _ rfl; (with_reducible repeat (first | refine blk_drewN ?_ _ | refine blk_drew ?_ | refine blk_alloc ?_ _)); exact BK220.out⟩
     have n4_ : Aside0 (Below w.heap.size w ((w40.setCell ⟨gb220, 0, none⟩ (.int .i64 0)).setCell ⟨gb220, 1, none⟩ (.slice Ao39 t217.length co39))) := ⟨zB HB⟩
     (try clear HO219)
     (try clear BK208)
     (try clear BK209)
     (try clear BK220)
     (try clear HB)
     generalize ((w40.setCell ⟨gb220, 0, none⟩ (.int .i64 0)).setCell ⟨gb220, 1, none⟩ (.slice Ao39 t217.length co39)) = w44 at n0_ n1_ n2_ n3_ n4_ ⊢
     have HO219 := n0_
     have BK208 := n1_
     have BK209 := n2_
     have BK220 := n3_
     have HB := n4_
     clear n0_ n1_ n2_ n3_ n4_
     replace HO219 := Aside0.mk (Kd.R_drew HO219.out)
     replace BK208 := Aside0.mk (blk_drew BK208.out)
     replace BK209 := Aside0.mk (blk_drew BK209.out)
     replace BK220 := Aside0.mk (blk_drew BK220.out)
     replace HB := Aside0.mk (below_drew1 HB.out)
     have p221 : 0 ≤ (0 : Int) := (by omega)
     have q221 : 0 < (l1.length : Int) := zD
     obtain ⟨ad221, e221, hx221_0⟩ := Kd.at_int HR1.out 0 p221 q221
     have hw221_0 := hx221_0
     (try rw [show ((0 : Int)).toNat = 0 from rfl] at hw221_0)
     (try rw [show 0 * 1 = 0 from rfl] at hw221_0)
     (try rw [Addr.add_zero'] at hw221_0)
     obtain rfl : ad213 = ad221 := (by injection e221)
     have qi221 : (0 < l1.length) = True := eq_true (by omega)
     (try rw [show ((0 : Int)).toNat = 0 from rfl] at hx221_0)
     (try rw [Addr.add_zero'] at hx221_0)
     replace hx221_0 := hL HB hx221_0
     replace p221 := eq_true p221
     replace q221 := eq_true q221
     refine start_ (n := 11) (S := fun w' => w'.cell? ⟨gb220, 0, none⟩ = some (.int .i64 0) ∧ w'.cell? ⟨gb220, 1, none⟩ = some (.slice Ao39 t217.length co39) ∧ w'.cell? ⟨gb208, 0, none⟩ = some (.int .i64 a0_0) ∧ w'.cell? ⟨gb208, 1, none⟩ = some (.int .i64 a0_1) ∧ w'.cell? ⟨gb208, 2, none⟩ = some (.int .i64 a0_2) ∧ w'.cell? ⟨gb208, 3, none⟩ = some (.int .i64 a0_3) ∧ w'.cell? ad213 = some (.int .i64 (rd l1 0))) (ds := []) (bm 11 0) (by kernel_rfl) rfl (bm0 _) ⟨bc0 BK220, bc1 BK220, bc0 BK208, bc1 BK208, bc2 BK208, bc3 BK208, (hL HB hw221_0)⟩ (fun hHeld => ?_); refine with_tabW impl_readField.tab9 impl_readField.bits9 (fun HT_ HW_ => ?_)
     generalize w44.drew = w45 at HO219 BK208 BK209 BK220 HB hx221_0 hHeld ⊢
     refine pU 1 (some 45) (bm 11 2) HT_ rfl rfl ?_
     refine pU 2 (some 46) (bm 11 6) HT_ rfl rfl ?_
     refine tU 0 (some 44) (bm 11 7) HT_ HW_ rfl rfl hHeld ?_
     refine tU 3 (some 47) (bm 11 15) HT_ HW_ rfl rfl hHeld ?_
     refine pU 4 (some 48) (bm 11 31) HT_ rfl rfl ?_
     refine tU 5 (some 49) (bm 11 63) HT_ HW_ rfl rfl hHeld ?_
     refine tU 6 (some 50) (bm 11 127) HT_ HW_ rfl rfl hHeld ?_
     refine one_ (i := 7) (N := some 51) (bm 11 255) rfl rfl (one_of HT_.out (by kernel_rfl)) (by decide) (fun K hK => ?_)
     refine goes_ Try.func62 (by kernel_rfl) rfl #[.agg #[.int .i64 a0_0, .int .i64 a0_1, .int .i64 a0_2, .int .i64 a0_3], .agg #[.int .i64 0, .slice Ao39 t217.length co39]] (by rfl) rfl rfl zG ?_
     with_reducible refine (impl_FitsField.calls a0_0 a0_1 a0_2 a0_3 0 _ _ t217 t222 _ ?side1 ?side2 A31.out).mono ?_
     (case side1 => repeat (first | exact (Kd.R_reads' HO219.out).2.2 | (with_reducible refine Kd.C_alloc ?_ _) | (with_reducible refine Kd.C_drewN ?_ _) | (with_reducible refine Kd.C_drew ?_)))
     (case side2 => exact (Kd.R_reads' HO219.out).2.1)
     rintro e w46 ⟨rfl, hb⟩
     refine ⟨_, rfl, ?_⟩
     replace HO219 := Aside0.mk (Kd.R_below (zR HO219) hb)
     replace BK208 := kB BK208 hb
     replace BK209 := kB BK209 hb
     replace BK220 := kB BK220 hb
     replace HB := bS HB hb
     (try clear hb)
     (try clear hb2)
     (try clear hk)
     (try clear hi)
     refine hK.out _ _ ⟨bc0 BK220, bc1 BK220, bc0 BK208, bc1 BK208, bc2 BK208, bc3 BK208, (hL HB hw221_0)⟩ (fun hHeld => ?_)
     clear hK K
     refine norm_ (a' := ?_) ?_ ?_
     rotate_left
     ·show Act.put _ (some 51) _ = _
      simp only [Act.put, List.setIfInBounds_toArray, List.set_cons_zero, List.set_cons_succ, i64_w, i32_w]
      rfl
     refine one_ (i := 8) (N := none) (bm 11 511) rfl rfl (one_of HT_.out (by kernel_rfl)) (by decide) (fun K hK => ?_)
     have hs47 : w46.cell? ⟨gb209, 0, none⟩ = some (.int .i64 0) := bc0 BK209
     have hfs47 := bf BK209 0
     have hns47_0 := NB208_209.out
     have hns47_2 := NB220_209.out
     have hms47_0 := NB209_208.out
     have hms47_2 := NB209_220.out
     have hs48 : w46.cell? ⟨gb209, 1, none⟩ = some (.slice none 0 0) := bc1 BK209
     have hfs48 := bf BK209 1
     have hns48_0 := NB208_209.out
     have hns48_2 := NB220_209.out
     have hms48_0 := NB209_208.out
     have hms48_2 := NB209_220.out
     refine skip_ (w1 := ?_) (by rfl) rfl ?_ ?_
     rotate_left
     ·go_simp
      rfl
     refine hK.out _ _ ⟨((cell_far (p := ⟨gb209, _, none⟩) NB220_209.out _).trans (((cell_far (p := ⟨gb209, _, none⟩) NB220_209.out _).trans (hHeld.1)))), ((cell_far (p := ⟨gb209, _, none⟩) NB220_209.out _).trans (((cell_far (p := ⟨gb209, _, none⟩) NB220_209.out _).trans (hHeld.2.1)))), ((cell_far (p := ⟨gb209, _, none⟩) NB208_209.out _).trans (((cell_far (p := ⟨gb209, _, none⟩) NB208_209.out _).trans (hHeld.2.2.1)))), ((cell_far (p := ⟨gb209, _, none⟩) NB208_209.out _).trans (((cell_far (p := ⟨gb209, _, none⟩) NB208_209.out _).trans (hHeld.2.2.2.1)))), ((cell_far (p := ⟨gb209, _, none⟩) NB208_209.out _).trans (((cell_far (p := ⟨gb209, _, none⟩) NB208_209.out _).trans (hHeld.2.2.2.2.1)))), ((cell_far (p := ⟨gb209, _, none⟩) NB208_209.out _).trans (((cell_far (p := ⟨gb209, _, none⟩) NB208_209.out _).trans (hHeld.2.2.2.2.2.1)))), ((cell_far (p := ⟨gb209, _, none⟩) (by first | exact Nat.ne_of_lt (Nat.lt_of_lt_of_le (by have := World.block_lt_of_cell? _ _ hw221_0; first | rwa [add_block] at this | exact this) GW209.out) | (rw [add_block]; exact Nat.ne_of_lt (Nat.lt_of_lt_of_le (by have := World.block_lt_of_cell? _ _ hw221_0; first | rwa [add_block] at this | exact this) GW209.out)) | (show (Addr.add _ _).block ≠ _; rw [add_block]; exact Nat.ne_of_lt (Nat.lt_of_lt_of_le (by have := World.block_lt_of_cell? _ _ hw221_0; first | rwa [add_block] at this | exact this) GW209.out)) | (dsimp only; exact Nat.ne_of_lt (Nat.lt_of_lt_of_le (by have := World.block_lt_of_cell? _ _ hw221_0; first | rwa [add_block] at this | exact this) GW209.out))) _).trans (((cell_far (p := ⟨gb209, _, none⟩) (by first | exact Nat.ne_of_lt (Nat.lt_of_lt_of_le (by have := World.block_lt_of_cell? _ _ hw221_0; first | rwa [add_block] at this | exact this) GW209.out) | (rw [add_block]; exact Nat.ne_of_lt (Nat.lt_of_lt_of_le (by have := World.block_lt_of_cell? _ _ hw221_0; first | rwa [add_block] at this | exact this) GW209.out)) | (show (Addr.add _ _).block ≠ _; rw [add_block]; exact Nat.ne_of_lt (Nat.lt_of_lt_of_le (by have := World.block_lt_of_cell? _ _ hw221_0; first | rwa [add_block] at this | exact this) GW209.out)) | (dsimp only; exact Nat.ne_of_lt (Nat.lt_of_lt_of_le (by have := World.block_lt_of_cell? _ _ hw221_0; first | rwa [add_block] at this | exact this) GW209.out))) _).trans (hHeld.2.2.2.2.2.2))))⟩ (fun hHeld => ?_)
     clear hK K
     refine pU 9 (some 5) (bm 11 1023) HT_ rfl rfl ?_
     refine pU 10 (some 6) (bm 11 2047) HT_ rfl rfl ?_
     refine done_ (done_of HT_.out (by kernel_rfl)) ?_
     try clear hHeld
     try go_wp2
     refine bodyPost_ret (results_ctt rfl _ _ gb209 58 #[.int .i64 0, .slice Ao39 t217.length co39] (0, 0) _ rfl (by (with_reducible repeat (first | refine blk_drewN ?_ _ | refine blk_drew ?_ | refine blk_alloc ?_ _)); refine blk_put (cs := #[.int .i64 0, .slice none 0 0]) ?_ 1 _ rfl; (with_reducible repeat (first | refine blk_drewN ?_ _ | refine blk_drew ?_ | refine blk_alloc ?_ _)); refine blk_put (cs := #[.int .i64 0, .slice none 0 0]) ?_ 0 _ rfl; (with_reducible repeat (first | refine blk_drewN ?_ _ | refine blk_drew ?_ | refine blk_alloc ?_ _)); exact BK209.out) Try.underlying58 rfl (by kernel_rfl)) rfl ?_
     exact ⟨_, by first | rfl | (simp [errW_none, errW_some] <;> rfl) | (simp only [← hji25]; first | rfl | (simp [errW_none, errW_some] <;> rfl)) | (simp [*, errW_none, errW_some] <;> rfl), by (with_reducible repeat (first | apply Kd.R_alloc | apply Kd.R_drewN | apply Kd.R_drew)); exact Kd.R_mono (Kd.R_far (p := ⟨gb209, 1, none⟩) (Kd.R_far (p := ⟨gb209, 0, none⟩) (Kd.R_types HO219.out BK209.out (by decide)) (fun _ hk => hk.2) (.int .i64 0)) (fun _ hk => hk.2) (.slice Ao39 t217.length co39)) (fun _ hk => trivial), zB HB⟩
    ·replace c27 := Bool.eq_false_iff.mpr c27
     subst c27
     have H1 : (some (0, ([] : List Int), 0, false)) = some (r1, r2, r3, r4) := by rw [if_neg (show ¬ (false = true) by decide)] at H; exact H
     clear H
     have H := H1
     clear H1
     simp only [Option.some.injEq, Prod.mk.injEq] at H
     obtain ⟨rfl, rfl, rfl, rfl⟩ := H
     go_enter Try.func48, Try.ntmps48
     try go_wp2_with (first | ((with_reducible refine gate_dst (N := 2) rfl ?_); refine box_event ?hg (N := 2) ?hd (cs := #[.int .i64 a0_0, .int .i64 a0_1, .int .i64 a0_2, .int .i64 a0_3]) (t := 47) ?hr ?_; (case hd => rfl); (case hg => rfl); (case hr => first | (go_simp; done) | (go_simp; rfl)); intro gb208 hg w49 hbox hb; have BK208 := Aside0.mk (hbox); have GW208 := gS HB hg; have GE208 := gS HB hg; replace HB := bS HB hb; clear hb hbox hg) | ((with_reducible refine gate_dst (N := 4) rfl ?_); refine box_event ?hg (N := 4) ?hd (cs := #[.int .i64 0, .slice none 0 0]) (t := 58) ?hr ?_; (case hd => rfl); (case hg => rfl); (case hr => first | (go_simp; done) | (go_simp; rfl)); intro gb209 hg w50 hbox hb; have BK209 := Aside0.mk (hbox); have GW209 := gS HB hg; have GE209 := gS HB hg; replace HB := bS HB hb; have NB208_209 := nL BK208 hg; have NB209_208 := nR BK208 hg; replace BK208 := kB BK208 hb; clear hb hbox hg; have hnb51 := NB208_209.out; have hnc51 := NB209_208.out; have hcz52_0 := bc0 BK208; have hcz52_1 := bc1 BK208; have hcz52_2 := bc2 BK208; have hcz52_3 := bc3 BK208; have hfz52_0 := bf BK208 0; have hfz52_1 := bf BK208 1; have hfz52_2 := bf BK208 2; have hfz52_3 := bf BK208 3))
     replace BK208 := Aside0.mk (blk_drew BK208.out)
     replace BK209 := Aside0.mk (blk_drew BK209.out)
     replace HB := Aside0.mk (below_drew1 HB.out)
     have p213 : 0 ≤ (0 : Int) := (by omega)
     have q213 : 0 < (l1.length : Int) := zD
     obtain ⟨ad213, e213, hx213_0⟩ := Kd.at_int HR1.out 0 p213 q213
     have hw213_0 := hx213_0
     (try rw [show ((0 : Int)).toNat = 0 from rfl] at hw213_0)
     (try rw [show 0 * 1 = 0 from rfl] at hw213_0)
     (try rw [Addr.add_zero'] at hw213_0)
     cases e213
     have qi213 : (0 < l1.length) = True := eq_true (by omega)
     (try rw [show ((0 : Int)).toNat = 0 from rfl] at hx213_0)
     (try rw [Addr.add_zero'] at hx213_0)
     replace hx213_0 := hL HB hx213_0
     replace p213 := eq_true p213
     replace q213 := eq_true q213
     refine start_ (n := 11) (S := fun w' => w'.cell? ⟨gb208, 0, none⟩ = some (.int .i64 a0_0) ∧ w'.cell? ⟨gb208, 1, none⟩ = some (.int .i64 a0_1) ∧ w'.cell? ⟨gb208, 2, none⟩ = some (.int .i64 a0_2) ∧ w'.cell? ⟨gb208, 3, none⟩ = some (.int .i64 a0_3) ∧ w'.cell? ad213 = some (.int .i64 (rd l1 0))) (ds := []) (bm 11 0) (by kernel_rfl) rfl (bm0 _) ⟨bc0 BK208, bc1 BK208, bc2 BK208, bc3 BK208, (hL HB hw213_0)⟩ (fun hHeld => ?_); refine with_tabW impl_readField.tab6 impl_readField.bits6 (fun HT_ HW_ => ?_)
     generalize w50.drew = w53 at BK208 BK209 HB hx213_0 hHeld ⊢
     refine pU 0 (some 24) (bm 11 1) HT_ rfl rfl ?_
     refine pU 1 (some 25) (bm 11 3) HT_ rfl rfl ?_
     refine pU 3 (some 27) (bm 11 11) HT_ rfl rfl ?_
     refine pU 5 (some 29) (bm 11 43) HT_ rfl rfl ?_
     refine pU 6 (some 30) (bm 11 107) HT_ rfl rfl ?_
     refine pU 7 (some 31) (bm 11 235) HT_ rfl rfl ?_
     refine tU 2 (some 26) (bm 11 239) HT_ HW_ rfl rfl hHeld ?_
     refine tU 4 (some 28) (bm 11 255) HT_ HW_ rfl rfl hHeld ?_
     refine pU 8 (some 32) (bm 11 511) HT_ rfl rfl ?_
     refine one_ (i := 9) (N := some 33) (bm 11 1023) rfl rfl (one_of HT_.out (by kernel_rfl)) (by decide) (fun K hK => ?_)
     refine goes_ Try.func33 (by kernel_rfl) rfl #[.int .i64 (rd l1 0), .int .i64 0, .int .i64 ji25] (by rfl) rfl rfl (by (try simp only [List.map_toArray, List.map_cons, List.map_nil]); first | done | (simp only [hji25]; rfl) | rfl | (simp only [List.length_drop, List.length_take]; rfl)) ?_
     with_reducible refine (impl_InRange.calls (rd l1 0) 0 ji25 false _ A26.out).mono ?_
     rintro e w' ⟨rfl, ⟨nd, rfl⟩⟩
     refine ⟨_, rfl, ?_⟩
     refine hK.out _ _ ⟨bc0 BK208, bc1 BK208, bc2 BK208, bc3 BK208, (hL HB hw213_0)⟩ (fun hHeld => ?_)
     clear hK K
     refine norm_ (a' := ?_) ?_ ?_
     rotate_left
     ·show Act.put _ (some 33) _ = _
      simp only [Act.put, List.setIfInBounds_toArray, List.set_cons_zero, List.set_cons_succ, i64_w, i32_w]
      rfl
     refine pU 10 (some 34) (bm 11 2047) HT_ rfl rfl ?_
     refine done_ (done_of HT_.out (by kernel_rfl)) ?_
     try clear hHeld
     have hcz54_0 := bc0 BK209
     have hcz54_1 := bc1 BK209
     have hfz54_0 := bf BK209 0
     have hfz54_1 := bf BK209 1
     try go_wp2
     refine bodyPost_ret (results_ctt rfl _ _ gb209 58 #[.int .i64 0, .slice none 0 0] (0, 0) _ rfl (by (with_reducible repeat (first | refine blk_drewN ?_ _ | refine blk_drew ?_ | refine blk_alloc ?_ _)); refine blk_put (cs := #[.int .i64 0, .slice none 0 0]) ?_ 1 _ rfl; (with_reducible repeat (first | refine blk_drewN ?_ _ | refine blk_drew ?_ | refine blk_alloc ?_ _)); refine blk_put (cs := #[.int .i64 0, .slice none 0 0]) ?_ 0 _ rfl; (with_reducible repeat (first | refine blk_drewN ?_ _ | refine blk_drew ?_ | refine blk_alloc ?_ _)); exact BK209.out) Try.underlying58 rfl (by kernel_rfl)) rfl ?_
     exact ⟨_, by first | rfl | (simp [errW_none, errW_some] <;> rfl) | (simp only [← hji25]; first | rfl | (simp [errW_none, errW_some] <;> rfl)) | (simp [*, errW_none, errW_some] <;> rfl), by first | exact Kd.R_nil _ _ _ _ _ | exact Kd.N_nil _ _ _ _ _ | exact Kd.V_nil _ _ _ _ _ | exact Kd.Q_nil _ _ _ _ _ | exact Kd.S_nil _ _ _ _ _, zB HB⟩
   ·rw [if_neg c24] at H
    exact absurd H (by simp)

end Go.Proofs.Yticpmgofegaaeaa.PFnDiffers
