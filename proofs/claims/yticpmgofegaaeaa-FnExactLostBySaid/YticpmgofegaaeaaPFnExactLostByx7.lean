-- WRITTEN by pp.py, this session's own wrapper around the print; not trusted: Lean checks it
import Derived.Test.YticpmgofegaaeaaPFnExactLostByx0
import Derived.Test.YticpmgofegaaeaaPFnExactLostByx1
import Derived.Test.YticpmgofegaaeaaPFnExactLostByx2
import Derived.Test.YticpmgofegaaeaaPFnExactLostByx3
import Derived.Test.YticpmgofegaaeaaPFnExactLostByx4
import Derived.Test.YticpmgofegaaeaaPFnExactLostByx5
import Derived.Test.YticpmgofegaaeaaPFnExactLostByx6
namespace Go.Proofs.Yticpmgofegaaeaa.PFnExactLostBy
open Go.RowKit Go.Proofs.Yticpmgofegaaeaa.Hw Go.Proofs.YticpmgofegaaeaaW.PrintWords Go.Proofs.YticpmgofegaaeaaW.PrintLast Go.Proofs.YticpmgofegaaeaaW.PrintMore
attribute [local go_sem] max2_int min2_int max_two min_two max_three min_three max_four min_four   -- for this text's walks alone
set_option linter.unusedVariables false
set_option linter.unusedSimpArgs false
set_option linter.unusedSectionVars false

/-! ### spec_EncodeMessage: function 45 -/
def spec_EncodeMessage.l0 : Nat → List (S47) → List (S58) → List Int → Int → Option (List Int × Bool)
 | 0, _, _, _, _ => none
 | k + 1, x0, x1, x6, x7 => if x7 < (x0.length : Int) then ((spec_IsThere.f x0 x1 x7).bind fun t186 => (if t186 = true then (if 0 ≤ x7 then (if ((rd_T47 x0 x7).f0) = 1 then (if x7 < (x1.length : Int) then (if x6.length < 17592186044416 then (spec_EncodeMessage.l0 k x0 x1 (x6 ++ [(rd_T58 x1 x7).f0]) (wrap64 (x7 + 1))) else (none)) else (none)) else (if x7 < (x1.length : Int) then (if x6.length < 17592186044416 then ((some (x6 ++ [(((rd_T58 x1 x7).f1).length : Int)] : List Int)).bind fun y193 => (if y193.length + ((rd_T58 x1 x7).f1).length < 17592186044416 then (spec_EncodeMessage.l0 k x0 x1 (y193 ++ ((rd_T58 x1 x7).f1)) (wrap64 (x7 + 1))) else (none))) else (none)) else (none))) else (none)) else (spec_EncodeMessage.l0 k x0 x1 x6 (wrap64 (x7 + 1))))) else (some (x6, true))
def spec_EncodeMessage.f (k : Nat) (l0 : List (S47)) (l1 : List (S58)) : Option (List Int × Bool) := (some (([] : List Int) : List Int)).bind fun y182 => ((spec_FitsFormat.f k l0 l1).bind fun t185 => (if t185 = true then (spec_EncodeMessage.l0 k l0 l1 y182 0) else (some (y182, false))))
theorem spec_EncodeMessage.mono_l : ∀ k, (∀ y0 y1 y2 y3, LeO (spec_EncodeMessage.l0 k y0 y1 y2 y3) (spec_EncodeMessage.l0 (k + 1) y0 y1 y2 y3))
 | 0 => fun _ _ _ _ r h => by simp [spec_EncodeMessage.l0] at h
 | k + 1 => by
  have ih0 := spec_EncodeMessage.mono_l k
  ·intro y0 y1 y2 y3
   unfold spec_EncodeMessage.l0
   repeat' first
   | (with_reducible exact ih0 _ _ _ _)
   | (with_reducible exact spec_FitsFormat.mono _ _ _)
   | (with_reducible exact LeO.refl _)
   | (with_reducible exact LeO.none _)
   | (with_reducible refine LeO.ite ?_ ?_)
   | (with_reducible refine LeO.bind ?_ (fun _ => ?_))
   | exact ih0 _ _ _ _
   | exact spec_FitsFormat.mono _ _ _
   | exact LeO.none _
   | refine LeO.ite ?_ ?_
   | refine LeO.bind ?_ (fun _ => ?_)
theorem spec_EncodeMessage.mono : ∀ a0 a1 k, LeO (spec_EncodeMessage.f k a0 a1) (spec_EncodeMessage.f (k + 1) a0 a1) := by
 intro a0 a1 k
 have ih0 := spec_EncodeMessage.mono_l k
 unfold spec_EncodeMessage.f
 repeat' first
   | (with_reducible exact ih0 _ _ _ _)
   | (with_reducible exact spec_FitsFormat.mono _ _ _)
   | (with_reducible exact LeO.refl _)
   | (with_reducible exact LeO.none _)
   | (with_reducible refine LeO.ite ?_ ?_)
   | (with_reducible refine LeO.bind ?_ (fun _ => ?_))
   | exact ih0 _ _ _ _
   | exact spec_FitsFormat.mono _ _ _
   | exact LeO.none _
   | refine LeO.ite ?_ ?_
   | refine LeO.bind ?_ (fun _ => ?_)
set_option maxHeartbeats 8000000 in
set_option maxRecDepth 100000 in
theorem spec_EncodeMessage.calls (k : Nat) (A0 : Option Addr) (c0 : Nat) (l0 : List (S47)) (A1 : Option Addr) (c1 : Nat) (l1 : List (S58)) (r1 : List Int) (r2 : Bool) (w : World) (hr0 : Kd.C k47 w A0 l0.length l0) (hc0 : l0.length ≤ c0) (hr1 : Kd.C k58 w A1 l1.length l1) (hc1 : l1.length ≤ c1) (h : spec_EncodeMessage.f k l0 l1 = some (r1, r2)) :
  Calls Try.prog 45 #[.slice A0 l0.length c0, .slice A1 l1.length c1] w fun e w' => ∃ v0_ : Value, e = .returned (.tuple #[v0_, .bool r2]) ∧ Kd.R (Kd.int .i64) 3 w' w.heap.size (fun _ => True) v0_ r1 ∧ Below w.heap.size w w' := by
 have HR0 := Aside0.mk hr0
 have HC0 := Aside0.mk hc0
 clear hr0 hc0
 have HR1 := Aside0.mk hr1
 have HC1 := Aside0.mk hc1
 clear hr1 hc1
 have HB := Aside0.mk (Below.refl w.heap.size w)
 have H : ((some (([] : List Int) : List Int)).bind fun y182 => ((spec_FitsFormat.f k l0 l1).bind fun t185 => (if t185 = true then (spec_EncodeMessage.l0 k l0 l1 y182 0) else (some (y182, false))))) = some (r1, r2) := h
 clear h
 obtain ⟨y182, hy182⟩ : ∃ y_ : List Int, y_ = (([] : List Int)) := ⟨_, rfl⟩
 replace H : ((spec_FitsFormat.f k l0 l1).bind fun t185 => (if t185 = true then (spec_EncodeMessage.l0 k l0 l1 y182 0) else (some (y182, false)))) = some (r1, r2) := by first | (rw [hy182]; with_reducible exact H) | (have H2_ := (Option.bind_some _ _).symm.trans H; rw [hy182]; with_reducible exact H2_) | (have H2_ := (Option.bind_some _ _).symm.trans H; with_reducible exact H2_) | with_reducible exact H | (rw [hy182]; exact H) | exact H
 have Ny182 := Aside0.mk hy182
 clear hy182
 obtain ⟨t185, A3, H⟩ := bindS H
 by_cases c4 : t185 = true
 ·subst c4
  have H1 : (spec_EncodeMessage.l0 k l0 l1 y182 0) = some (r1, r2) := by rw [if_pos rfl] at H; exact H
  clear H
  have H := H1
  clear H1
  have H' := Aside0.mk H
  clear H
  go_enter Try.func45, Try.ntmps45
  go_wp2_with (first | ((with_reducible refine gate_dst (N := 8) rfl ?_); refine Kd.R_lit (Kd.int .i64) _ 3 ?hg (N := 8) ?hd (xs := ([] : List Int)) (inner := []) (ok := fun _ => True) (okp := fun _ => True) ?hr ?hp (fun _ hk => hk) trivial (Below.refl _ _) (Nat.le_refl _) (by simp) ?_; (case hd => rfl); (case hg => rfl); (case hr => first | (go_simp; done) | (go_simp; rfl)); (case hp => exact (Reps.none _ _)); intro v183 w5 ho6 hb hg_ hnew_; clear hg_ hnew_; (first | rw [← Ny182.out] at ho6 | (simp only [Int.reduceToNat] at ho6; rw [← Ny182.out] at ho6)); have HO184 := Aside0.mk (Kd.R_lower ho6 (below_size (zB HB))); replace HB := bS HB hb; clear hb ho6) | ((with_reducible refine gate_callee (f := 59) rfl ?_); refine goesL_ (some 11) rfl rfl Try.func59 (by kernel_rfl) rfl #[.slice A0 l0.length c0, .slice A1 l1.length c1] rfl zG ?_; (with_reducible refine (spec_FitsFormat.calls k _ _ l0 _ _ l1 true _ ?side1 ?side2 ?side3 ?side4 A3.out).mono ?_); (case side1 => exact cS HR0 HB); (case side2 => exact HC0.out); (case side3 => exact cS HR1 HB); (case side4 => exact HC1.out); rintro e w7 ⟨rfl, hb⟩; refine ⟨_, rfl, ?_⟩; replace HO184 := Aside0.mk (Kd.R_below (zR HO184) hb); replace HB := bS HB hb; (try clear hb)))
  go_loopg [6, 7] k (fun kq v6 v7 w' => ∃ (x6_1 : List Int) (x7_1 : Int), v7 = .int .i64 x7_1 ∧ Aside0 (spec_EncodeMessage.l0 kq l0 l1 x6_1 x7_1 = some (r1, r2)) ∧ Aside0 (kq ≤ k) ∧ Aside0 (Kd.R (Kd.int .i64) 3 w' w.heap.size (fun _ => True) v6 x6_1) ∧ Aside0 (Below w.heap.size w w'))
  case atStart => exact ⟨(y182), (0), zF, H', ⟨Nat.le_refl _⟩, ⟨zR HO184⟩, ⟨zB HB⟩⟩
  case round =>
   clear H'
   try clear c1
   try clear p2
   try clear c4
   try clear c5
   obtain ⟨x6_1, x7_1, rfl, HA, HK1, HO_6, HB⟩ := hrel
   cases gk with
   | zero => exact absurd HA.out (by simp [spec_EncodeMessage.l0])
   | succ k1 =>
    have H := HA.out
    clear HA
    simp only [spec_EncodeMessage.l0] at H
    by_cases c8 : x7_1 < (l0.length : Int)
    ·rw [if_pos c8] at H
     have c8b0 : decide (x7_1 < (l0.length : Int)) = true := decide_eq_true c8
     clear c8
     obtain ⟨t186, A9, H⟩ := bindS H
     by_cases c10 : t186 = true
     ·subst c10
      have H1 : (if 0 ≤ x7_1 then (if ((rd_T47 l0 x7_1).f0) = 1 then (if x7_1 < (l1.length : Int) then (if x6_1.length < 17592186044416 then (spec_EncodeMessage.l0 k1 l0 l1 (x6_1 ++ [(rd_T58 l1 x7_1).f0]) (wrap64 (x7_1 + 1))) else (none)) else (none)) else (if x7_1 < (l1.length : Int) then (if x6_1.length < 17592186044416 then ((some (x6_1 ++ [(((rd_T58 l1 x7_1).f1).length : Int)] : List Int)).bind fun y193 => (if y193.length + ((rd_T58 l1 x7_1).f1).length < 17592186044416 then (spec_EncodeMessage.l0 k1 l0 l1 (y193 ++ ((rd_T58 l1 x7_1).f1)) (wrap64 (x7_1 + 1))) else (none))) else (none)) else (none))) else (none)) = some (r1, r2) := by rw [if_pos rfl] at H; exact H
      clear H
      have H := H1
      clear H1
      obtain ⟨c11, H⟩ := ifS H
      have c11b0 : decide (0 ≤ x7_1) = true := decide_eq_true c11
      clear c11
      by_cases c12 : ((rd_T47 l0 x7_1).f0) = 1
      ·rw [if_pos c12] at H
       have c12b0 : (((rd_T47 l0 x7_1).f0) == 1) = true := beq_iff_eq.mpr c12
       have c12b1 : (((rd_T47 l0 x7_1).f0) != 1) = false := bne_eq_false_iff_eq.mpr c12
       clear c12
       obtain ⟨c13, H⟩ := ifS H
       have c13b0 : decide (x7_1 < (l1.length : Int)) = true := decide_eq_true c13
       clear c13
       obtain ⟨c14, H⟩ := ifS H
       have LMc14 := Aside0.mk c14
       clear c14
       obtain ⟨y189, hy189⟩ : ∃ y_ : List Int, y_ = (x6_1 ++ [(rd_T58 l1 x7_1).f0]) := ⟨_, rfl⟩
       replace H : (spec_EncodeMessage.l0 k1 l0 l1 y189 (wrap64 (x7_1 + 1))) = some (r1, r2) := by first | (rw [hy189]; with_reducible exact H) | (have H2_ := (Option.bind_some _ _).symm.trans H; rw [hy189]; with_reducible exact H2_) | (have H2_ := (Option.bind_some _ _).symm.trans H; with_reducible exact H2_) | with_reducible exact H | (rw [hy189]; exact H) | exact H
       have Ny189 := Aside0.mk hy189
       clear hy189
       have H' := Aside0.mk H
       clear H
       go_wp2_with (first | ((with_reducible refine gate_callee (f := 43) rfl ?_); refine goesL_ (some 40) rfl rfl Try.func43 (by kernel_rfl) rfl #[.slice A0 l0.length c0, .slice A1 l1.length c1, .int .i64 x7_1] rfl zG ?_; (with_reducible refine (spec_IsThere.calls _ _ l0 _ _ l1 x7_1 true _ ?side1 ?side2 ?side3 ?side4 A9.out).mono ?_); (case side1 => exact cS HR0 HB); (case side2 => exact HC0.out); (case side3 => exact cS HR1 HB); (case side4 => exact HC1.out); rintro e w15 ⟨rfl, hb⟩; refine ⟨_, rfl, ?_⟩; replace HO_6 := Aside0.mk (Kd.R_below (zR HO_6) hb); replace HB := bS HB hb; (try clear hb); have p187 : 0 ≤ (x7_1 : Int) := zD; have q187 : x7_1 < (l0.length : Int) := zD; obtain ⟨ad187, e187, hx187_0, hx187_1, hx187_2, hx187_3⟩ := at_T47 HR0.out x7_1 p187 q187; cases e187; replace hx187_0 := hL HB hx187_0; replace hx187_1 := hL HB hx187_1; replace hx187_2 := hL HB hx187_2; replace hx187_3 := hL HB hx187_3; replace p187 := eq_true p187; replace q187 := eq_true q187; have p188 : 0 ≤ (x7_1 : Int) := zD; have q188 : x7_1 < (l1.length : Int) := zD; obtain ⟨ad188, A188_1, c188_1, e188, hx188_0, hx188_1, hl188_1, hi188_1⟩ := at_T58 HR1.out x7_1 p188 q188; cases e188; replace hx188_0 := hL HB hx188_0; replace hx188_1 := hL HB hx188_1; have HR188_1 := Aside0.mk hi188_1; have HC188_1 := Aside0.mk hl188_1; clear hi188_1 hl188_1; replace p188 := eq_true p188; replace q188 := eq_true q188) | ((with_reducible refine gate_builtin (b := .append) (xs := #[.tmp 49, .tmp 55]) rfl ?_); at_builtin; refine Kd.R_append (Kd.int .i64) (w0 := w) w.heap.size rfl (.tmp 49) (.tmp 55) 37 3 (.int .i64 0) 8 rfl Try.underlying37 info3 rfl (by decide) (by omega) u6 x6_1 ((rd_T58 l1 x7_1).f0) [.int .i64 ((rd_T58 l1 x7_1).f0)] (fun _ => True) (fun _ => False) rfl rfl ?aP (fun _ hk => hk.elim) ?aF ?aO ?aB ?aS ?aL ?_; (case aP => exact rfl); (case aB => exact (zB HB)); (case aF => exact (fun _ _ => trivial)); (case aO => exact (zR HO_6)); (case aS => exact (below_size (zB HB))); (case aL => have := LMc14.out; omega); intro v190 w16 ho hb hg hat; rw [← Ny189.out] at ho; replace HB := Aside0.mk (hb); have HO191 := Aside0.mk (ho); clear HO_6; clear ho hb hg hat))
       go_roundg k1
       case measure => have := HK1.out; omega
       case rel => exact ⟨(y189), (wrap64 (x7_1 + 1)), zF, H', ⟨by have := HK1.out; omega⟩, ⟨zR HO191⟩, ⟨zB HB⟩⟩
      ·rw [if_neg c12] at H
       have c12b0 : (((rd_T47 l0 x7_1).f0) == 1) = false := beq_eq_false_iff_ne.mpr c12
       have c12b1 : (((rd_T47 l0 x7_1).f0) != 1) = true := bne_iff_ne.mpr c12
       obtain ⟨c17, H⟩ := ifS H
       have c17b0 : decide (x7_1 < (l1.length : Int)) = true := decide_eq_true c17
       clear c17
       obtain ⟨c18, H⟩ := ifS H
       have LMc18 := Aside0.mk c18
       clear c18
       obtain ⟨y193, hy193⟩ : ∃ y_ : List Int, y_ = (x6_1 ++ [(((rd_T58 l1 x7_1).f1).length : Int)]) := ⟨_, rfl⟩
       replace H : (if y193.length + ((rd_T58 l1 x7_1).f1).length < 17592186044416 then (spec_EncodeMessage.l0 k1 l0 l1 (y193 ++ ((rd_T58 l1 x7_1).f1)) (wrap64 (x7_1 + 1))) else (none)) = some (r1, r2) := by first | (rw [hy193]; with_reducible exact H) | (have H2_ := (Option.bind_some _ _).symm.trans H; rw [hy193]; with_reducible exact H2_) | (have H2_ := (Option.bind_some _ _).symm.trans H; with_reducible exact H2_) | with_reducible exact H | (rw [hy193]; exact H) | exact H
       have Ny193 := Aside0.mk hy193
       clear hy193
       obtain ⟨c19, H⟩ := ifS H
       have LMc19 := Aside0.mk c19
       clear c19
       obtain ⟨y197, hy197⟩ : ∃ y_ : List Int, y_ = (y193 ++ ((rd_T58 l1 x7_1).f1)) := ⟨_, rfl⟩
       replace H : (spec_EncodeMessage.l0 k1 l0 l1 y197 (wrap64 (x7_1 + 1))) = some (r1, r2) := by first | (rw [hy197]; with_reducible exact H) | (have H2_ := (Option.bind_some _ _).symm.trans H; rw [hy197]; with_reducible exact H2_) | (have H2_ := (Option.bind_some _ _).symm.trans H; with_reducible exact H2_) | with_reducible exact H | (rw [hy197]; exact H) | exact H
       have Ny197 := Aside0.mk hy197
       clear hy197
       have H' := Aside0.mk H
       clear H
       go_wp2_with (first | ((with_reducible refine gate_callee (f := 43) rfl ?_); refine goesL_ (some 40) rfl rfl Try.func43 (by kernel_rfl) rfl #[.slice A0 l0.length c0, .slice A1 l1.length c1, .int .i64 x7_1] rfl zG ?_; (with_reducible refine (spec_IsThere.calls _ _ l0 _ _ l1 x7_1 true _ ?side1 ?side2 ?side3 ?side4 A9.out).mono ?_); (case side1 => exact cS HR0 HB); (case side2 => exact HC0.out); (case side3 => exact cS HR1 HB); (case side4 => exact HC1.out); rintro e w20 ⟨rfl, hb⟩; refine ⟨_, rfl, ?_⟩; replace HO_6 := Aside0.mk (Kd.R_below (zR HO_6) hb); replace HB := bS HB hb; (try clear hb); have p187 : 0 ≤ (x7_1 : Int) := zD; have q187 : x7_1 < (l0.length : Int) := zD; obtain ⟨ad187, e187, hx187_0, hx187_1, hx187_2, hx187_3⟩ := at_T47 HR0.out x7_1 p187 q187; cases e187; replace hx187_0 := hL HB hx187_0; replace hx187_1 := hL HB hx187_1; replace hx187_2 := hL HB hx187_2; replace hx187_3 := hL HB hx187_3; replace p187 := eq_true p187; replace q187 := eq_true q187; have p192 : 0 ≤ (x7_1 : Int) := zD; have q192 : x7_1 < (l1.length : Int) := zD; obtain ⟨ad192, A192_1, c192_1, e192, hx192_0, hx192_1, hl192_1, hi192_1⟩ := at_T58 HR1.out x7_1 p192 q192; cases e192; replace hx192_0 := hL HB hx192_0; replace hx192_1 := hL HB hx192_1; have HR192_1 := Aside0.mk hi192_1; have HC192_1 := Aside0.mk hl192_1; clear hi192_1 hl192_1; replace p192 := eq_true p192; replace q192 := eq_true q192) | ((with_reducible refine gate_builtin (b := .append) (xs := #[.tmp 20, .tmp 27]) rfl ?_); at_builtin; refine Kd.R_append (Kd.int .i64) (w0 := w) w.heap.size rfl (.tmp 20) (.tmp 27) 37 3 (.int .i64 0) 8 rfl Try.underlying37 info3 rfl (by decide) (by omega) u6 x6_1 (((rd_T58 l1 x7_1).f1).length : Int) [.int .i64 (((rd_T58 l1 x7_1).f1).length : Int)] (fun _ => True) (fun _ => False) rfl rfl ?aP (fun _ hk => hk.elim) ?aF ?aO ?aB ?aS ?aL ?_; (case aP => exact rfl); (case aB => exact (zB HB)); (case aF => exact (fun _ _ => trivial)); (case aO => exact (zR HO_6)); (case aS => exact (below_size (zB HB))); (case aL => have := LMc18.out; omega); intro v194 w21 ho hb hg hat; rw [← Ny193.out] at ho; replace HB := Aside0.mk (hb); have HO195 := Aside0.mk (ho); clear HO_6; clear ho hb hg hat; have p196 : 0 ≤ (x7_1 : Int) := zD; have q196 : x7_1 < (l1.length : Int) := zD; obtain ⟨ad196, A196_1, c196_1, e196, hx196_0, hx196_1, hl196_1, hi196_1⟩ := at_T58 HR1.out x7_1 p196 q196; obtain rfl : ad192 = ad196 := (by injection e196); replace hx196_0 := hL HB hx196_0; replace hx196_1 := hL HB hx196_1; have HR196_1 := Aside0.mk hi196_1; have HC196_1 := Aside0.mk hl196_1; clear hi196_1 hl196_1; replace p196 := eq_true p196; replace q196 := eq_true q196) | ((with_reducible refine gate_builtin (b := .append) (xs := #[.tmp 29, .tmp 34]) rfl ?_); at_builtin; refine Kd.R_append_rows (Kd.int .i64) (w0 := w) w.heap.size rfl (.tmp 29) (.tmp 34) 37 3 (.int .i64 0) 8 rfl Try.underlying37 info3 rfl (by decide) (by omega) v194 y193 ((rd_T58 l1 x7_1).f1) _ _ _ (fun _ => True) (fun _ => False) rfl rfl ?aO ?aR (fun _ _ h => h) (fun _ h => h.elim) ?aF ?aB ?aS ?aL ?_; (case aR => repeat (first | exact (Kd.C_below HR196_1.out HB.out) | (with_reducible refine Kd.C_alloc ?_ _) | (with_reducible refine Kd.C_drewN ?_ _) | (with_reducible refine Kd.C_drew ?_))); (case aB => exact (zB HB)); (case aF => exact (fun _ _ => trivial)); (case aO => exact (zR HO195)); (case aS => exact (below_size (zB HB))); (case aL => have := LMc19.out; omega); intro v198 w22 ho hb hg hat; rw [← Ny197.out] at ho; replace HB := Aside0.mk (hb); have HO199 := Aside0.mk (ho); clear HO195; clear ho hb hg hat))
       go_roundg k1
       case measure => have := HK1.out; omega
       case rel => exact ⟨(y197), (wrap64 (x7_1 + 1)), zF, H', ⟨by have := HK1.out; omega⟩, ⟨zR HO199⟩, ⟨zB HB⟩⟩
     ·replace c10 := Bool.eq_false_iff.mpr c10
      subst c10
      have H1 : (spec_EncodeMessage.l0 k1 l0 l1 x6_1 (wrap64 (x7_1 + 1))) = some (r1, r2) := by rw [if_neg (show ¬ (false = true) by decide)] at H; exact H
      clear H
      have H := H1
      clear H1
      have H' := Aside0.mk H
      clear H
      go_wp2_with (first | ((with_reducible refine gate_callee (f := 43) rfl ?_); refine goesL_ (some 40) rfl rfl Try.func43 (by kernel_rfl) rfl #[.slice A0 l0.length c0, .slice A1 l1.length c1, .int .i64 x7_1] rfl zG ?_; (with_reducible refine (spec_IsThere.calls _ _ l0 _ _ l1 x7_1 false _ ?side1 ?side2 ?side3 ?side4 A9.out).mono ?_); (case side1 => exact cS HR0 HB); (case side2 => exact HC0.out); (case side3 => exact cS HR1 HB); (case side4 => exact HC1.out); rintro e w23 ⟨rfl, hb⟩; refine ⟨_, rfl, ?_⟩; replace HO_6 := Aside0.mk (Kd.R_below (zR HO_6) hb); replace HB := bS HB hb; (try clear hb)))
      go_roundg k1
      case measure => have := HK1.out; omega
      case rel => exact ⟨(x6_1), (wrap64 (x7_1 + 1)), zF, H', ⟨by have := HK1.out; omega⟩, ⟨zR HO_6⟩, ⟨zB HB⟩⟩
    ·rw [if_neg c8] at H
     have c8b0 : decide (x7_1 < (l0.length : Int)) = false := decide_eq_false c8
     clear c8
     simp only [Option.some.injEq, Prod.mk.injEq] at H
     obtain ⟨rfl, rfl⟩ := H
     go_wp2
     go_ret2
     exact ⟨_, zE, by (with_reducible repeat (first | apply Kd.R_alloc | apply Kd.R_drewN | apply Kd.R_drew)); exact HO_6.out, zB HB⟩
 ·replace c4 := Bool.eq_false_iff.mpr c4
  subst c4
  have H1 : (some (y182, false)) = some (r1, r2) := by rw [if_neg (show ¬ (false = true) by decide)] at H; exact H
  clear H
  have H := H1
  clear H1
  simp only [Option.some.injEq, Prod.mk.injEq] at H
  obtain ⟨rfl, rfl⟩ := H
  go_enter Try.func45, Try.ntmps45
  go_wp2_with (first | ((with_reducible refine gate_dst (N := 8) rfl ?_); refine Kd.R_lit (Kd.int .i64) _ 3 ?hg (N := 8) ?hd (xs := ([] : List Int)) (inner := []) (ok := fun _ => True) (okp := fun _ => True) ?hr ?hp (fun _ hk => hk) trivial (Below.refl _ _) (Nat.le_refl _) (by simp) ?_; (case hd => rfl); (case hg => rfl); (case hr => first | (go_simp; done) | (go_simp; rfl)); (case hp => exact (Reps.none _ _)); intro v183 w24 ho25 hb hg_ hnew_; clear hg_ hnew_; (first | rw [← Ny182.out] at ho25 | (simp only [Int.reduceToNat] at ho25; rw [← Ny182.out] at ho25)); have HO184 := Aside0.mk (Kd.R_lower ho25 (below_size (zB HB))); replace HB := bS HB hb; clear hb ho25) | ((with_reducible refine gate_callee (f := 59) rfl ?_); refine goesL_ (some 11) rfl rfl Try.func59 (by kernel_rfl) rfl #[.slice A0 l0.length c0, .slice A1 l1.length c1] rfl zG ?_; (with_reducible refine (spec_FitsFormat.calls k _ _ l0 _ _ l1 false _ ?side1 ?side2 ?side3 ?side4 A3.out).mono ?_); (case side1 => exact cS HR0 HB); (case side2 => exact HC0.out); (case side3 => exact cS HR1 HB); (case side4 => exact HC1.out); rintro e w26 ⟨rfl, hb⟩; refine ⟨_, rfl, ?_⟩; replace HO184 := Aside0.mk (Kd.R_below (zR HO184) hb); replace HB := bS HB hb; (try clear hb)))
  go_ret2
  exact ⟨_, zE, by (with_reducible repeat (first | apply Kd.R_alloc | apply Kd.R_drewN | apply Kd.R_drew)); exact HO184.out, zB HB⟩

/-! ### spec_MakeBytes: function 25 -/
def spec_MakeBytes.f (k : Nat) (l0 : List (S47)) (a1 : Int) : Option (List Int) := (spec_MakeMessage.f k l0 a1).bind fun t200 => ((spec_EncodeMessage.f k l0 t200).bind fun bt203 => (some bt203.1))
theorem spec_MakeBytes.mono : ∀ a0 a1 k, LeO (spec_MakeBytes.f k a0 a1) (spec_MakeBytes.f (k + 1) a0 a1) := by
 intro a0 a1 k
 unfold spec_MakeBytes.f
 repeat' first
   | (with_reducible exact spec_EncodeMessage.mono _ _ _)
   | (with_reducible exact spec_MakeMessage.mono _ _ _)
   | (with_reducible exact LeO.refl _)
   | (with_reducible exact LeO.none _)
   | (with_reducible refine LeO.ite ?_ ?_)
   | (with_reducible refine LeO.bind ?_ (fun _ => ?_))
   | exact spec_EncodeMessage.mono _ _ _
   | exact spec_MakeMessage.mono _ _ _
   | exact LeO.none _
   | refine LeO.ite ?_ ?_
   | refine LeO.bind ?_ (fun _ => ?_)
set_option maxHeartbeats 8000000 in
set_option maxRecDepth 100000 in
theorem spec_MakeBytes.calls (k : Nat) (A0 : Option Addr) (c0 : Nat) (l0 : List (S47)) (a1 : Int) (r : List Int) (w : World) (hr0 : Kd.C k47 w A0 l0.length l0) (hc0 : l0.length ≤ c0) (h : spec_MakeBytes.f k l0 a1 = some r) :
  Calls Try.prog 25 #[.slice A0 l0.length c0, .int .i64 a1] w fun e w' => ∃ v0_ : Value, e = .returned (v0_) ∧ Kd.R (Kd.int .i64) 3 w' w.heap.size (fun _ => True) v0_ r ∧ Below w.heap.size w w' := by
 have HR0 := Aside0.mk hr0
 have HC0 := Aside0.mk hc0
 clear hr0 hc0
 have HB := Aside0.mk (Below.refl w.heap.size w)
 have H : ((spec_MakeMessage.f k l0 a1).bind fun t200 => ((spec_EncodeMessage.f k l0 t200).bind fun bt203 => (some bt203.1))) = some r := h
 clear h
 obtain ⟨t200, A3, H⟩ := bindS H
 replace H := Option.bind_eq_some_iff.mp H
 obtain ⟨⟨t203, t204⟩, A40, H⟩ := H
 replace H : (some t203) = some r := H
 have A4 := Aside0.mk A40
 clear A40
 obtain rfl := Option.some.inj H
 go_enter Try.func25, Try.ntmps25
 go_wp2_with (first | ((with_reducible refine gate_callee (f := 26) rfl ?_); refine goesL_ (some 11) rfl rfl Try.func26 (by kernel_rfl) rfl #[.slice A0 l0.length c0, .int .i64 a1] rfl zG ?_; (with_reducible refine (spec_MakeMessage.calls k _ _ l0 a1 t200 _ ?side1 ?side2 A3.out).mono ?_); (case side1 => exact cT HR0); (case side2 => exact HC0.out); rintro e w5 ⟨v201, rfl, ho0, hb⟩; refine ⟨_, rfl, ?_⟩; have HO202 := Aside0.mk (Kd.S_lower ho0 (below_size (zB HB))); replace HB := bS HB hb; (try clear hb); (try clear ho0); obtain ⟨Ao6, co6, eo6⟩ := Kd.S_slice HO202.out; subst eo6) | ((with_reducible refine gate_callee (f := 45) rfl ?_); refine goesL_ (some 12) rfl rfl Try.func45 (by kernel_rfl) rfl #[.slice A0 l0.length c0, .slice Ao6 t200.length co6] rfl zG ?_; (with_reducible refine (spec_EncodeMessage.calls k _ _ l0 _ _ t200 t203 t204 _ ?side1 ?side2 ?side3 ?side4 A4.out).mono ?_); (case side1 => exact cS HR0 HB); (case side2 => exact HC0.out); (case side3 => repeat (first | exact (Kd.S_reads' HO202.out).2.2 | (with_reducible refine Kd.C_alloc ?_ _) | (with_reducible refine Kd.C_drewN ?_ _) | (with_reducible refine Kd.C_drew ?_))); (case side4 => exact (Kd.S_reads' HO202.out).2.1); rintro e w7 ⟨v205, rfl, ho0, hb⟩; refine ⟨_, rfl, ?_⟩; replace HO202 := Aside0.mk (Kd.S_elder' (zS HO202) (Kd.R_base ho0) hb); have HO206 := Aside0.mk (Kd.R_lower ho0 (below_size (zB HB))); replace HB := bS HB hb; (try clear hb); (try clear ho0)))
 go_ret
 exact ⟨_, zE, by (with_reducible repeat (first | apply Kd.R_alloc | apply Kd.R_drewN | apply Kd.R_drew)); exact HO206.out, zB HB⟩

/-! ### spec_l6Read: function 44 -/
def spec_l6Read.f (k : Nat) (a0_0 : Int) (a0_1 : Int) (a0_2 : Int) (a0_3 : Int) (l1 : List Int) (a2 : Int) : Option (Int × List Int × Int) := if a2 ≥ (l1.length : Int) then (some (0, ([] : List Int), (-1))) else (if 0 ≤ a2 then (if a2 < (l1.length : Int) then (if a0_0 = 1 then ((spec_FitsField.f k a0_0 a0_1 a0_2 a0_3 (rd l1 a2) ([] : List Int)).bind fun t211 => (if t211 = true then (some (rd l1 a2, ([] : List Int), wrap64 (a2 + 1))) else (some (0, ([] : List Int), (-1))))) else ((spec_l1In.f (rd l1 a2) 0 (wrap64 ((wrap64 ((l1.length : Int) - a2)) - 1))).bind fun t213 => (if t213 = true then ((some (([] : List Int) : List Int)).bind fun y215 => (if 0 ≤ (wrap64 (a2 + 1)) then (if (wrap64 (a2 + 1)) ≤ (wrap64 ((wrap64 (a2 + 1)) + (rd l1 a2))) then (if (wrap64 ((wrap64 (a2 + 1)) + (rd l1 a2))) ≤ (l1.length : Int) then (if y215.length + ((l1.take ((wrap64 ((wrap64 (a2 + 1)) + (rd l1 a2))) : Int).toNat).drop ((wrap64 (a2 + 1)) : Int).toNat).length < 17592186044416 then ((some (y215 ++ ((l1.take ((wrap64 ((wrap64 (a2 + 1)) + (rd l1 a2))) : Int).toNat).drop ((wrap64 (a2 + 1)) : Int).toNat) : List Int)).bind fun y219 => ((spec_FitsField.f k a0_0 a0_1 a0_2 a0_3 0 y219).bind fun t222 => (if t222 = true then (some (0, y219, wrap64 ((wrap64 (a2 + 1)) + (rd l1 a2)))) else (some (0, ([] : List Int), (-1)))))) else (none)) else (none)) else (none)) else (none))) else (some (0, ([] : List Int), (-1)))))) else (none)) else (none))
theorem spec_l6Read.mono : ∀ a0 a1 a2 a3 a4 a5 k, LeO (spec_l6Read.f k a0 a1 a2 a3 a4 a5) (spec_l6Read.f (k + 1) a0 a1 a2 a3 a4 a5) := by
 intro a0 a1 a2 a3 a4 a5 k
 unfold spec_l6Read.f
 repeat' first
   | (with_reducible exact spec_FitsField.mono _ _ _ _ _ _ _)
   | (with_reducible exact LeO.refl _)
   | (with_reducible exact LeO.none _)
   | (with_reducible refine LeO.ite ?_ ?_)
   | (with_reducible refine LeO.bind ?_ (fun _ => ?_))
   | exact spec_FitsField.mono _ _ _ _ _ _ _
   | exact LeO.none _
   | refine LeO.ite ?_ ?_
   | refine LeO.bind ?_ (fun _ => ?_)
set_option maxHeartbeats 8000000 in
set_option maxRecDepth 100000 in
theorem spec_l6Read.calls (k : Nat) (a0_0 : Int) (a0_1 : Int) (a0_2 : Int) (a0_3 : Int) (A1 : Option Addr) (c1 : Nat) (l1 : List Int) (a2 : Int) (r1 : Int) (r2 : List Int) (r3 : Int) (w : World) (hr1 : Kd.C (Kd.int .i64) w A1 l1.length l1) (hc1 : l1.length ≤ c1) (h : spec_l6Read.f k a0_0 a0_1 a0_2 a0_3 l1 a2 = some (r1, r2, r3)) :
  Calls Try.prog 44 #[.agg #[.int .i64 a0_0, .int .i64 a0_1, .int .i64 a0_2, .int .i64 a0_3], .slice A1 l1.length c1, .int .i64 a2] w fun e w' => ∃ v1_ : Value, e = .returned (.tuple #[.agg #[.int .i64 r1, v1_], .int .i64 r3]) ∧ Kd.R (Kd.int .i64) 3 w' w.heap.size (fun _ => True) v1_ r2 ∧ Below w.heap.size w w' := by
 have hu47 := Try.underlying47
 have hu58 := Try.underlying58
 have HR1 := Aside0.mk hr1
 have HC1 := Aside0.mk hc1
 clear hr1 hc1
 have HB := Aside0.mk (Below.refl w.heap.size w)
 have H : (if a2 ≥ (l1.length : Int) then (some (0, ([] : List Int), (-1))) else (if 0 ≤ a2 then (if a2 < (l1.length : Int) then (if a0_0 = 1 then ((spec_FitsField.f k a0_0 a0_1 a0_2 a0_3 (rd l1 a2) ([] : List Int)).bind fun t211 => (if t211 = true then (some (rd l1 a2, ([] : List Int), wrap64 (a2 + 1))) else (some (0, ([] : List Int), (-1))))) else ((spec_l1In.f (rd l1 a2) 0 (wrap64 ((wrap64 ((l1.length : Int) - a2)) - 1))).bind fun t213 => (if t213 = true then ((some (([] : List Int) : List Int)).bind fun y215 => (if 0 ≤ (wrap64 (a2 + 1)) then (if (wrap64 (a2 + 1)) ≤ (wrap64 ((wrap64 (a2 + 1)) + (rd l1 a2))) then (if (wrap64 ((wrap64 (a2 + 1)) + (rd l1 a2))) ≤ (l1.length : Int) then (if y215.length + ((l1.take ((wrap64 ((wrap64 (a2 + 1)) + (rd l1 a2))) : Int).toNat).drop ((wrap64 (a2 + 1)) : Int).toNat).length < 17592186044416 then ((some (y215 ++ ((l1.take ((wrap64 ((wrap64 (a2 + 1)) + (rd l1 a2))) : Int).toNat).drop ((wrap64 (a2 + 1)) : Int).toNat) : List Int)).bind fun y219 => ((spec_FitsField.f k a0_0 a0_1 a0_2 a0_3 0 y219).bind fun t222 => (if t222 = true then (some (0, y219, wrap64 ((wrap64 (a2 + 1)) + (rd l1 a2)))) else (some (0, ([] : List Int), (-1)))))) else (none)) else (none)) else (none)) else (none))) else (some (0, ([] : List Int), (-1)))))) else (none)) else (none))) = some (r1, r2, r3) := h
 clear h
 by_cases c4 : a2 ≥ (l1.length : Int)
 ·rw [if_pos c4] at H
  have c4b0 : decide ((l1.length : Int) ≤ a2) = true := decide_eq_true c4
  clear c4
  simp only [Option.some.injEq, Prod.mk.injEq] at H
  obtain ⟨rfl, rfl, rfl⟩ := H
  go_enter Try.func44, Try.ntmps44
  go_wp2_with (first | ((with_reducible refine gate_dst (N := 3) rfl ?_); refine box_event ?hg (N := 3) ?hd (cs := #[.int .i64 a0_0, .int .i64 a0_1, .int .i64 a0_2, .int .i64 a0_3]) (t := 47) ?hr ?_; (case hd => rfl); (case hg => rfl); (case hr => first | (go_simp; done) | (go_simp; rfl)); intro gb207 hg w5 hbox hb; have BK207 := Aside0.mk (hbox); have GW207 := gS HB hg; have GE207 := gS HB hg; replace HB := bS HB hb; clear hb hbox hg) | ((with_reducible refine gate_dst (N := 6) rfl ?_); refine box_event ?hg (N := 6) ?hd (cs := #[.int .i64 0, .slice none 0 0]) (t := 58) ?hr ?_; (case hd => rfl); (case hg => rfl); (case hr => first | (go_simp; done) | (go_simp; rfl)); intro gb208 hg w6 hbox hb; have BK208 := Aside0.mk (hbox); have GW208 := gS HB hg; have GE208 := gS HB hg; replace HB := bS HB hb; have NB207_208 := nL BK207 hg; have NB208_207 := nR BK207 hg; replace BK207 := kB BK207 hb; clear hb hbox hg; have hnb7 := NB208_207.out; have hnc7 := NB207_208.out; have hcz8_0 := bc0 BK208; have hcz8_1 := bc1 BK208; have hfz8_0 := bf BK208 0; have hfz8_1 := bf BK208 1))
  refine bodyPost_ret (results_ct rfl _ _ gb208 58 #[.int .i64 0, .slice none 0 0] (0, 0) _ rfl (by (with_reducible repeat (first | refine blk_drewN ?_ _ | refine blk_drew ?_ | refine blk_alloc ?_ _)); refine blk_put (cs := #[.int .i64 0, .slice none 0 0]) ?_ 1 _ rfl; (with_reducible repeat (first | refine blk_drewN ?_ _ | refine blk_drew ?_ | refine blk_alloc ?_ _)); refine blk_put (cs := #[.int .i64 0, .slice none 0 0]) ?_ 0 _ rfl; (with_reducible repeat (first | refine blk_drewN ?_ _ | refine blk_drew ?_ | refine blk_alloc ?_ _)); exact BK208.out) Try.underlying58 rfl (by kernel_rfl)) rfl ?_
  exact ⟨_, zE, by first | exact Kd.R_nil _ _ _ _ _ | exact Kd.N_nil _ _ _ _ _ | exact Kd.V_nil _ _ _ _ _ | exact Kd.Q_nil _ _ _ _ _ | exact Kd.S_nil _ _ _ _ _, zB HB⟩
 ·rw [if_neg c4] at H
  have c4b0 : decide ((l1.length : Int) ≤ a2) = false := decide_eq_false c4
  clear c4
  by_cases c9 : 0 ≤ a2
  ·rw [if_pos c9] at H
   have c9b0 : decide (0 ≤ a2) = true := decide_eq_true c9
   clear c9
   obtain ⟨c10, H⟩ := ifS H
   have c10b0 : decide (a2 < (l1.length : Int)) = true := decide_eq_true c10
   clear c10
   by_cases c11 : a0_0 = 1
   ·rw [if_pos c11] at H
    have c11b0 : (a0_0 == 1) = true := beq_iff_eq.mpr c11
    have c11b1 : (a0_0 != 1) = false := bne_eq_false_iff_eq.mpr c11
    clear c11
    obtain ⟨t211, A12, H⟩ := bindS H
    by_cases c13 : t211 = true
    ·subst c13
     have H1 : (some (rd l1 a2, ([] : List Int), wrap64 (a2 + 1))) = some (r1, r2, r3) := by rw [if_pos rfl] at H; exact H
     clear H
     have H := H1
     clear H1
     simp only [Option.some.injEq, Prod.mk.injEq] at H
     obtain ⟨rfl, rfl, rfl⟩ := H
     go_enter Try.func44, Try.ntmps44
     go_wp2_with (first | ((with_reducible refine gate_dst (N := 3) rfl ?_); refine box_event ?hg (N := 3) ?hd (cs := #[.int .i64 a0_0, .int .i64 a0_1, .int .i64 a0_2, .int .i64 a0_3]) (t := 47) ?hr ?_; (case hd => rfl); (case hg => rfl); (case hr => first | (go_simp; done) | (go_simp; rfl)); intro gb207 hg w14 hbox hb; have BK207 := Aside0.mk (hbox); have GW207 := gS HB hg; have GE207 := gS HB hg; replace HB := bS HB hb; clear hb hbox hg) | ((with_reducible refine gate_dst (N := 6) rfl ?_); refine box_event ?hg (N := 6) ?hd (cs := #[.int .i64 0, .slice none 0 0]) (t := 58) ?hr ?_; (case hd => rfl); (case hg => rfl); (case hr => first | (go_simp; done) | (go_simp; rfl)); intro gb208 hg w15 hbox hb; have BK208 := Aside0.mk (hbox); have GW208 := gS HB hg; have GE208 := gS HB hg; replace HB := bS HB hb; have NB207_208 := nL BK207 hg; have NB208_207 := nR BK207 hg; replace BK207 := kB BK207 hb; clear hb hbox hg; have p209 : 0 ≤ (a2 : Int) := zD; have q209 : a2 < (l1.length : Int) := zD; obtain ⟨ad209, e209, hx209_0⟩ := Kd.at_int HR1.out a2 p209 q209; cases e209; replace hx209_0 := hL HB hx209_0; replace p209 := eq_true p209; replace q209 := eq_true q209) | ((with_reducible refine gate_dst (N := 8) rfl ?_); refine box_event ?hg (N := 8) ?hd (cs := #[.int .i64 0, .slice none 0 0]) (t := 58) ?hr ?_; (case hd => rfl); (case hg => rfl); (case hr => first | (go_simp; done) | (go_simp; rfl)); intro gb210 hg w16 hbox hb; have BK210 := Aside0.mk (hbox); have GW210 := gS HB hg; have GE210 := gS HB hg; replace HB := bS HB hb; have NB207_210 := nL BK207 hg; have NB210_207 := nR BK207 hg; replace BK207 := kB BK207 hb; have NB208_210 := nL BK208 hg; have NB210_208 := nR BK208 hg; replace BK208 := kB BK208 hb; clear hb hbox hg; have hnb17 := NB210_207.out; have hnc17 := NB207_210.out; have hnb18 := NB210_208.out; have hnc18 := NB208_210.out; have hcz19_0 := bc0 BK210; have hcz19_1 := bc1 BK210; have hfz19_0 := bf BK210 0; have hfz19_1 := bf BK210 1; have hnb20 := NB207_208.out; have hnc20 := NB208_207.out; have hcz21_0 := bc0 BK207; have hcz21_1 := bc1 BK207; have hcz21_2 := bc2 BK207; have hcz21_3 := bc3 BK207; have hfz21_0 := bf BK207 0; have hfz21_1 := bf BK207 1; have hfz21_2 := bf BK207 2; have hfz21_3 := bf BK207 3) | ((with_reducible refine gate_callee (f := 58) rfl ?_); refine goesL_ (some 54) rfl rfl Try.func58 (by kernel_rfl) rfl #[.agg #[.int .i64 a0_0, .int .i64 a0_1, .int .i64 a0_2, .int .i64 a0_3], .agg #[.int .i64 (rd l1 a2), .slice none 0 0]] rfl zG ?_; (refine (spec_FitsField.calls k a0_0 a0_1 a0_2 a0_3 (rd l1 a2) _ _ ([] : List Int) true _ ?side1 ?side2 A12.out).mono ?_); (case side1 => exact Kd.C_nil _ _); (case side2 => exact Nat.le_refl _); rintro e w22 ⟨rfl, hb⟩; refine ⟨_, rfl, ?_⟩; replace BK207 := Aside0.mk (blk_below (g := gb207) (o := .cells #[.int .i64 a0_0, .int .i64 a0_1, .int .i64 a0_2, .int .i64 a0_3] 47 (0, 0)) (by (with_reducible repeat (first | refine blk_drewN ?_ _ | refine blk_drew ?_ | refine blk_alloc ?_ _)); refine blk_far ?_ NB207_210.out _; (with_reducible repeat (first | refine blk_drewN ?_ _ | refine blk_drew ?_ | refine blk_alloc ?_ _)); refine blk_far ?_ NB207_210.out _; (with_reducible repeat (first | refine blk_drewN ?_ _ | refine blk_drew ?_ | refine blk_alloc ?_ _)); exact BK207.out) hb); replace BK208 := Aside0.mk (blk_below (g := gb208) (o := .cells #[.int .i64 0, .slice none 0 0] 58 (0, 0)) (by (with_reducible repeat (first | refine blk_drewN ?_ _ | refine blk_drew ?_ | refine blk_alloc ?_ _)); refine blk_far ?_ NB208_210.out _; (with_reducible repeat (first | refine blk_drewN ?_ _ | refine blk_drew ?_ | refine blk_alloc ?_ _)); refine blk_far ?_ NB208_210.out _; (with_reducible repeat (first | refine blk_drewN ?_ _ | refine blk_drew ?_ | refine blk_alloc ?_ _)); exact BK208.out) hb); replace BK210 := Aside0.mk (blk_below (g := gb210) (o := .cells #[.int .i64 (rd l1 a2), .slice none 0 0] 58 (0, 0)) (by (with_reducible repeat (first | refine blk_drewN ?_ _ | refine blk_drew ?_ | refine blk_alloc ?_ _)); refine blk_put (cs := #[.int .i64 (rd l1 a2), .slice none 0 0]) ?_ 1 _ rfl; (with_reducible repeat (first | refine blk_drewN ?_ _ | refine blk_drew ?_ | refine blk_alloc ?_ _)); refine blk_put (cs := #[.int .i64 0, .slice none 0 0]) ?_ 0 _ rfl; (with_reducible repeat (first | refine blk_drewN ?_ _ | refine blk_drew ?_ | refine blk_alloc ?_ _)); exact BK210.out) hb); replace HB := bS HB hb; (try clear hb); have hcz23_0 := bc0 BK210; have hcz23_1 := bc1 BK210; have hfz23_0 := bf BK210 0; have hfz23_1 := bf BK210 1; have hcz24_0 := bc0 BK208; have hcz24_1 := bc1 BK208; have hfz24_0 := bf BK208 0; have hfz24_1 := bf BK208 1))
     refine bodyPost_ret (results_ct rfl _ _ gb208 58 #[.int .i64 (rd l1 a2), .slice none 0 0] (0, 0) _ rfl (by (with_reducible repeat (first | refine blk_drewN ?_ _ | refine blk_drew ?_ | refine blk_alloc ?_ _)); refine blk_put (cs := #[.int .i64 (rd l1 a2), .slice none 0 0]) ?_ 1 _ rfl; (with_reducible repeat (first | refine blk_drewN ?_ _ | refine blk_drew ?_ | refine blk_alloc ?_ _)); refine blk_put (cs := #[.int .i64 0, .slice none 0 0]) ?_ 0 _ rfl; (with_reducible repeat (first | refine blk_drewN ?_ _ | refine blk_drew ?_ | refine blk_alloc ?_ _)); exact BK208.out) Try.underlying58 rfl (by kernel_rfl)) rfl ?_
     exact ⟨_, zE, by first | exact Kd.R_nil _ _ _ _ _ | exact Kd.N_nil _ _ _ _ _ | exact Kd.V_nil _ _ _ _ _ | exact Kd.Q_nil _ _ _ _ _ | exact Kd.S_nil _ _ _ _ _, zB HB⟩
    ·replace c13 := Bool.eq_false_iff.mpr c13
     subst c13
     have H1 : (some (0, ([] : List Int), (-1))) = some (r1, r2, r3) := by rw [if_neg (show ¬ (false = true) by decide)] at H; exact H
     clear H
     have H := H1
     clear H1
     simp only [Option.some.injEq, Prod.mk.injEq] at H
     obtain ⟨rfl, rfl, rfl⟩ := H
     go_enter Try.func44, Try.ntmps44
     go_wp2_with (first | ((with_reducible refine gate_dst (N := 3) rfl ?_); refine box_event ?hg (N := 3) ?hd (cs := #[.int .i64 a0_0, .int .i64 a0_1, .int .i64 a0_2, .int .i64 a0_3]) (t := 47) ?hr ?_; (case hd => rfl); (case hg => rfl); (case hr => first | (go_simp; done) | (go_simp; rfl)); intro gb207 hg w25 hbox hb; have BK207 := Aside0.mk (hbox); have GW207 := gS HB hg; have GE207 := gS HB hg; replace HB := bS HB hb; clear hb hbox hg) | ((with_reducible refine gate_dst (N := 6) rfl ?_); refine box_event ?hg (N := 6) ?hd (cs := #[.int .i64 0, .slice none 0 0]) (t := 58) ?hr ?_; (case hd => rfl); (case hg => rfl); (case hr => first | (go_simp; done) | (go_simp; rfl)); intro gb208 hg w26 hbox hb; have BK208 := Aside0.mk (hbox); have GW208 := gS HB hg; have GE208 := gS HB hg; replace HB := bS HB hb; have NB207_208 := nL BK207 hg; have NB208_207 := nR BK207 hg; replace BK207 := kB BK207 hb; clear hb hbox hg; have p209 : 0 ≤ (a2 : Int) := zD; have q209 : a2 < (l1.length : Int) := zD; obtain ⟨ad209, e209, hx209_0⟩ := Kd.at_int HR1.out a2 p209 q209; cases e209; replace hx209_0 := hL HB hx209_0; replace p209 := eq_true p209; replace q209 := eq_true q209) | ((with_reducible refine gate_dst (N := 8) rfl ?_); refine box_event ?hg (N := 8) ?hd (cs := #[.int .i64 0, .slice none 0 0]) (t := 58) ?hr ?_; (case hd => rfl); (case hg => rfl); (case hr => first | (go_simp; done) | (go_simp; rfl)); intro gb210 hg w27 hbox hb; have BK210 := Aside0.mk (hbox); have GW210 := gS HB hg; have GE210 := gS HB hg; replace HB := bS HB hb; have NB207_210 := nL BK207 hg; have NB210_207 := nR BK207 hg; replace BK207 := kB BK207 hb; have NB208_210 := nL BK208 hg; have NB210_208 := nR BK208 hg; replace BK208 := kB BK208 hb; clear hb hbox hg; have hnb28 := NB210_207.out; have hnc28 := NB207_210.out; have hnb29 := NB210_208.out; have hnc29 := NB208_210.out; have hcz30_0 := bc0 BK210; have hcz30_1 := bc1 BK210; have hfz30_0 := bf BK210 0; have hfz30_1 := bf BK210 1; have hnb31 := NB207_208.out; have hnc31 := NB208_207.out; have hcz32_0 := bc0 BK207; have hcz32_1 := bc1 BK207; have hcz32_2 := bc2 BK207; have hcz32_3 := bc3 BK207; have hfz32_0 := bf BK207 0; have hfz32_1 := bf BK207 1; have hfz32_2 := bf BK207 2; have hfz32_3 := bf BK207 3) | ((with_reducible refine gate_callee (f := 58) rfl ?_); refine goesL_ (some 54) rfl rfl Try.func58 (by kernel_rfl) rfl #[.agg #[.int .i64 a0_0, .int .i64 a0_1, .int .i64 a0_2, .int .i64 a0_3], .agg #[.int .i64 (rd l1 a2), .slice none 0 0]] rfl zG ?_; (refine (spec_FitsField.calls k a0_0 a0_1 a0_2 a0_3 (rd l1 a2) _ _ ([] : List Int) false _ ?side1 ?side2 A12.out).mono ?_); (case side1 => exact Kd.C_nil _ _); (case side2 => exact Nat.le_refl _); rintro e w33 ⟨rfl, hb⟩; refine ⟨_, rfl, ?_⟩; replace BK207 := Aside0.mk (blk_below (g := gb207) (o := .cells #[.int .i64 a0_0, .int .i64 a0_1, .int .i64 a0_2, .int .i64 a0_3] 47 (0, 0)) (by (with_reducible repeat (first | refine blk_drewN ?_ _ | refine blk_drew ?_ | refine blk_alloc ?_ _)); refine blk_far ?_ NB207_210.out _; (with_reducible repeat (first | refine blk_drewN ?_ _ | refine blk_drew ?_ | refine blk_alloc ?_ _)); refine blk_far ?_ NB207_210.out _; (with_reducible repeat (first | refine blk_drewN ?_ _ | refine blk_drew ?_ | refine blk_alloc ?_ _)); exact BK207.out) hb); replace BK208 := Aside0.mk (blk_below (g := gb208) (o := .cells #[.int .i64 0, .slice none 0 0] 58 (0, 0)) (by (with_reducible repeat (first | refine blk_drewN ?_ _ | refine blk_drew ?_ | refine blk_alloc ?_ _)); refine blk_far ?_ NB208_210.out _; (with_reducible repeat (first | refine blk_drewN ?_ _ | refine blk_drew ?_ | refine blk_alloc ?_ _)); refine blk_far ?_ NB208_210.out _; (with_reducible repeat (first | refine blk_drewN ?_ _ | refine blk_drew ?_ | refine blk_alloc ?_ _)); exact BK208.out) hb); replace BK210 := Aside0.mk (blk_below (g := gb210) (o := .cells #[.int .i64 (rd l1 a2), .slice none 0 0] 58 (0, 0)) (by (with_reducible repeat (first | refine blk_drewN ?_ _ | refine blk_drew ?_ | refine blk_alloc ?_ _)); refine blk_put (cs := #[.int .i64 (rd l1 a2), .slice none 0 0]) ?_ 1 _ rfl; (with_reducible repeat (first | refine blk_drewN ?_ _ | refine blk_drew ?_ | refine blk_alloc ?_ _)); refine blk_put (cs := #[.int .i64 0, .slice none 0 0]) ?_ 0 _ rfl; (with_reducible repeat (first | refine blk_drewN ?_ _ | refine blk_drew ?_ | refine blk_alloc ?_ _)); exact BK210.out) hb); replace HB := bS HB hb; (try clear hb); have hcz34_0 := bc0 BK208; have hcz34_1 := bc1 BK208; have hfz34_0 := bf BK208 0; have hfz34_1 := bf BK208 1))
     refine bodyPost_ret (results_ct rfl _ _ gb208 58 #[.int .i64 0, .slice none 0 0] (0, 0) _ rfl (by (with_reducible repeat (first | refine blk_drewN ?_ _ | refine blk_drew ?_ | refine blk_alloc ?_ _)); refine blk_put (cs := #[.int .i64 0, .slice none 0 0]) ?_ 1 _ rfl; (with_reducible repeat (first | refine blk_drewN ?_ _ | refine blk_drew ?_ | refine blk_alloc ?_ _)); refine blk_put (cs := #[.int .i64 0, .slice none 0 0]) ?_ 0 _ rfl; (with_reducible repeat (first | refine blk_drewN ?_ _ | refine blk_drew ?_ | refine blk_alloc ?_ _)); exact BK208.out) Try.underlying58 rfl (by kernel_rfl)) rfl ?_
     exact ⟨_, zE, by first | exact Kd.R_nil _ _ _ _ _ | exact Kd.N_nil _ _ _ _ _ | exact Kd.V_nil _ _ _ _ _ | exact Kd.Q_nil _ _ _ _ _ | exact Kd.S_nil _ _ _ _ _, zB HB⟩
   ·rw [if_neg c11] at H
    have c11b0 : (a0_0 == 1) = false := beq_eq_false_iff_ne.mpr c11
    have c11b1 : (a0_0 != 1) = true := bne_iff_ne.mpr c11
    obtain ⟨t213, A35, H⟩ := bindS H
    by_cases c36 : t213 = true
    ·subst c36
     have H1 : ((some (([] : List Int) : List Int)).bind fun y215 => (if 0 ≤ (wrap64 (a2 + 1)) then (if (wrap64 (a2 + 1)) ≤ (wrap64 ((wrap64 (a2 + 1)) + (rd l1 a2))) then (if (wrap64 ((wrap64 (a2 + 1)) + (rd l1 a2))) ≤ (l1.length : Int) then (if y215.length + ((l1.take ((wrap64 ((wrap64 (a2 + 1)) + (rd l1 a2))) : Int).toNat).drop ((wrap64 (a2 + 1)) : Int).toNat).length < 17592186044416 then ((some (y215 ++ ((l1.take ((wrap64 ((wrap64 (a2 + 1)) + (rd l1 a2))) : Int).toNat).drop ((wrap64 (a2 + 1)) : Int).toNat) : List Int)).bind fun y219 => ((spec_FitsField.f k a0_0 a0_1 a0_2 a0_3 0 y219).bind fun t222 => (if t222 = true then (some (0, y219, wrap64 ((wrap64 (a2 + 1)) + (rd l1 a2)))) else (some (0, ([] : List Int), (-1)))))) else (none)) else (none)) else (none)) else (none))) = some (r1, r2, r3) := by rw [if_pos rfl] at H; exact H
     clear H
     have H := H1
     clear H1
     obtain ⟨y215, hy215⟩ : ∃ y_ : List Int, y_ = (([] : List Int)) := ⟨_, rfl⟩
     replace H : (if 0 ≤ (wrap64 (a2 + 1)) then (if (wrap64 (a2 + 1)) ≤ (wrap64 ((wrap64 (a2 + 1)) + (rd l1 a2))) then (if (wrap64 ((wrap64 (a2 + 1)) + (rd l1 a2))) ≤ (l1.length : Int) then (if y215.length + ((l1.take ((wrap64 ((wrap64 (a2 + 1)) + (rd l1 a2))) : Int).toNat).drop ((wrap64 (a2 + 1)) : Int).toNat).length < 17592186044416 then ((some (y215 ++ ((l1.take ((wrap64 ((wrap64 (a2 + 1)) + (rd l1 a2))) : Int).toNat).drop ((wrap64 (a2 + 1)) : Int).toNat) : List Int)).bind fun y219 => ((spec_FitsField.f k a0_0 a0_1 a0_2 a0_3 0 y219).bind fun t222 => (if t222 = true then (some (0, y219, wrap64 ((wrap64 (a2 + 1)) + (rd l1 a2)))) else (some (0, ([] : List Int), (-1)))))) else (none)) else (none)) else (none)) else (none)) = some (r1, r2, r3) := by first | (rw [hy215]; with_reducible exact H) | (have H2_ := (Option.bind_some _ _).symm.trans H; rw [hy215]; with_reducible exact H2_) | (have H2_ := (Option.bind_some _ _).symm.trans H; with_reducible exact H2_) | with_reducible exact H | (rw [hy215]; exact H) | exact H
     have Ny215 := Aside0.mk hy215
     clear hy215
     obtain ⟨ji37, hji37⟩ : ∃ j_ : Int, (wrap64 (a2 + 1)) = j_ := ⟨_, rfl⟩
     replace H : (if 0 ≤ (ji37) then (if (ji37) ≤ (wrap64 ((ji37) + (rd l1 a2))) then (if (wrap64 ((ji37) + (rd l1 a2))) ≤ (l1.length : Int) then (if y215.length + ((l1.take ((wrap64 ((ji37) + (rd l1 a2))) : Int).toNat).drop ((ji37) : Int).toNat).length < 17592186044416 then ((some (y215 ++ ((l1.take ((wrap64 ((ji37) + (rd l1 a2))) : Int).toNat).drop ((ji37) : Int).toNat) : List Int)).bind fun y219 => ((spec_FitsField.f k a0_0 a0_1 a0_2 a0_3 0 y219).bind fun t222 => (if t222 = true then (some (0, y219, wrap64 ((ji37) + (rd l1 a2)))) else (some (0, ([] : List Int), (-1)))))) else (none)) else (none)) else (none)) else (none)) = some (r1, r2, r3) := by first | (rw [hji37] at H; exact H) | (simp only [hji37] at H ⊢; exact H)
     (try rw [hji37] at A35)
     have hji37w : (IntKind.i64.wrap (a2 + 1)) = ji37 := (i64_w _).trans hji37
     obtain ⟨c38, H⟩ := ifS H
     have c38b0 := eq_true c38
     have c38b1 : decide (0 ≤ (ji37)) = true := decide_eq_true c38
     clear c38
     obtain ⟨c39, H⟩ := ifS H
     have c39b0 := eq_true c39
     have c39b1 : decide ((ji37) ≤ (wrap64 ((ji37) + (rd l1 a2)))) = true := decide_eq_true c39
     obtain ⟨c40, H⟩ := ifS H
     have c40b0 := eq_true c40
     have c40b1 : decide ((wrap64 ((ji37) + (rd l1 a2))) ≤ (l1.length : Int)) = true := decide_eq_true c40
     obtain ⟨c41, H⟩ := ifS H
     have LMc41 := Aside0.mk c41
     clear c41
     obtain ⟨y219, hy219⟩ : ∃ y_ : List Int, y_ = (y215 ++ ((l1.take ((wrap64 ((ji37) + (rd l1 a2))) : Int).toNat).drop ((ji37) : Int).toNat)) := ⟨_, rfl⟩
     replace H : ((spec_FitsField.f k a0_0 a0_1 a0_2 a0_3 0 y219).bind fun t222 => (if t222 = true then (some (0, y219, wrap64 ((ji37) + (rd l1 a2)))) else (some (0, ([] : List Int), (-1))))) = some (r1, r2, r3) := by first | (rw [hy219]; with_reducible exact H) | (have H2_ := (Option.bind_some _ _).symm.trans H; rw [hy219]; with_reducible exact H2_) | (have H2_ := (Option.bind_some _ _).symm.trans H; with_reducible exact H2_) | with_reducible exact H | (rw [hy219]; exact H) | exact H
     have Ny219 := Aside0.mk hy219
     clear hy219
     obtain ⟨t222, A42, H⟩ := bindS H
     by_cases c43 : t222 = true
     ·subst c43
      have H1 : (some (0, y219, wrap64 ((ji37) + (rd l1 a2)))) = some (r1, r2, r3) := by rw [if_pos rfl] at H; exact H
      clear H
      have H := H1
      clear H1
      simp only [Option.some.injEq, Prod.mk.injEq] at H
      obtain ⟨rfl, rfl, rfl⟩ := H
      go_enter Try.func44, Try.ntmps44
      go_wp2_with (first | ((with_reducible refine gate_dst (N := 3) rfl ?_); refine box_event ?hg (N := 3) ?hd (cs := #[.int .i64 a0_0, .int .i64 a0_1, .int .i64 a0_2, .int .i64 a0_3]) (t := 47) ?hr ?_; (case hd => rfl); (case hg => rfl); (case hr => first | (go_simp; done) | (go_simp; rfl)); intro gb207 hg w44 hbox hb; have BK207 := Aside0.mk (hbox); have GW207 := gS HB hg; have GE207 := gS HB hg; replace HB := bS HB hb; clear hb hbox hg) | ((with_reducible refine gate_dst (N := 6) rfl ?_); refine box_event ?hg (N := 6) ?hd (cs := #[.int .i64 0, .slice none 0 0]) (t := 58) ?hr ?_; (case hd => rfl); (case hg => rfl); (case hr => first | (go_simp; done) | (go_simp; rfl)); intro gb208 hg w45 hbox hb; have BK208 := Aside0.mk (hbox); have GW208 := gS HB hg; have GE208 := gS HB hg; replace HB := bS HB hb; have NB207_208 := nL BK207 hg; have NB208_207 := nR BK207 hg; replace BK207 := kB BK207 hb; clear hb hbox hg; have p209 : 0 ≤ (a2 : Int) := zD; have q209 : a2 < (l1.length : Int) := zD; obtain ⟨ad209, e209, hx209_0⟩ := Kd.at_int HR1.out a2 p209 q209; cases e209; replace hx209_0 := hL HB hx209_0; replace p209 := eq_true p209; replace q209 := eq_true q209) | ((with_reducible refine gate_dst (N := 8) rfl ?_); refine box_event ?hg (N := 8) ?hd (cs := #[.int .i64 0, .slice none 0 0]) (t := 58) ?hr ?_; (case hd => rfl); (case hg => rfl); (case hr => first | (go_simp; done) | (go_simp; rfl)); intro gb210 hg w46 hbox hb; have BK210 := Aside0.mk (hbox); have GW210 := gS HB hg; have GE210 := gS HB hg; replace HB := bS HB hb; have NB207_210 := nL BK207 hg; have NB210_207 := nR BK207 hg; replace BK207 := kB BK207 hb; have NB208_210 := nL BK208 hg; have NB210_208 := nR BK208 hg; replace BK208 := kB BK208 hb; clear hb hbox hg; have hnb47 := NB210_207.out; have hnc47 := NB207_210.out; have hnb48 := NB210_208.out; have hnc48 := NB208_210.out; have hcz49_0 := bc0 BK210; have hcz49_1 := bc1 BK210; have hfz49_0 := bf BK210 0; have hfz49_1 := bf BK210 1; have hnb50 := NB207_208.out; have hnc50 := NB208_207.out; have hcz51_0 := bc0 BK207; have hcz51_1 := bc1 BK207; have hcz51_2 := bc2 BK207; have hcz51_3 := bc3 BK207; have hfz51_0 := bf BK207 0; have hfz51_1 := bf BK207 1; have hfz51_2 := bf BK207 2; have hfz51_3 := bf BK207 3; have p212 : 0 ≤ (a2 : Int) := zD; have q212 : a2 < (l1.length : Int) := zD; obtain ⟨ad212, e212, hx212_0⟩ := Kd.at_int HR1.out a2 p212 q212; obtain rfl : ad209 = ad212 := (by injection e212); have hn212_0 : ad209.block ≠ gb210 := Nat.ne_of_lt (Nat.lt_of_lt_of_le (by have := World.block_lt_of_cell? _ _ hx212_0; first | rwa [add_block] at this | exact this) GW210.out); have hn212_1 : ad209.block ≠ gb210 := Nat.ne_of_lt (Nat.lt_of_lt_of_le (by have := World.block_lt_of_cell? _ _ hx212_0; first | rwa [add_block] at this | exact this) GW210.out); replace hx212_0 := hL HB hx212_0; replace hx212_0 := (cell_far (p := ⟨gb210, 0, none⟩) (by first | (rw [add_block]; exact hn212_0) | (show (Addr.add _ _).block ≠ _; rw [add_block]; exact hn212_0) | exact hn212_0) (.int .i64 (rd l1 a2))).trans hx212_0; replace hx212_0 := (cell_far (p := ⟨gb210, 1, none⟩) (by first | (rw [add_block]; exact hn212_1) | (show (Addr.add _ _).block ≠ _; rw [add_block]; exact hn212_1) | exact hn212_1) (.slice none 0 0)).trans hx212_0; clear hn212_0; clear hn212_1; replace p212 := eq_true p212; replace q212 := eq_true q212) | ((with_reducible refine gate_callee (f := 49) rfl ?_); refine goesL_ (some 34) rfl rfl Try.func49 (by kernel_rfl) rfl #[.int .i64 (rd l1 a2), .int .i64 0, .int .i64 (wrap64 ((wrap64 ((l1.length : Int) - a2)) - 1))] rfl zG ?_; (with_reducible refine (spec_l1In.calls (rd l1 a2) 0 (wrap64 ((wrap64 ((l1.length : Int) - a2)) - 1)) true _ A35.out).mono ?_); rintro e w' ⟨rfl, ⟨nd, rfl⟩⟩; refine ⟨_, rfl, ?_⟩; have p214 : 0 ≤ (a2 : Int) := zD; have q214 : a2 < (l1.length : Int) := zD; obtain ⟨ad214, e214, hx214_0⟩ := Kd.at_int HR1.out a2 p214 q214; obtain rfl : ad209 = ad214 := (by injection e214); have hn214_0 : ad209.block ≠ gb210 := Nat.ne_of_lt (Nat.lt_of_lt_of_le (by have := World.block_lt_of_cell? _ _ hx214_0; first | rwa [add_block] at this | exact this) GW210.out); have hn214_1 : ad209.block ≠ gb210 := Nat.ne_of_lt (Nat.lt_of_lt_of_le (by have := World.block_lt_of_cell? _ _ hx214_0; first | rwa [add_block] at this | exact this) GW210.out); replace hx214_0 := hL HB hx214_0; replace hx214_0 := (cell_far (p := ⟨gb210, 0, none⟩) (by first | (rw [add_block]; exact hn214_0) | (show (Addr.add _ _).block ≠ _; rw [add_block]; exact hn214_0) | exact hn214_0) (.int .i64 (rd l1 a2))).trans hx214_0; replace hx214_0 := (cell_far (p := ⟨gb210, 1, none⟩) (by first | (rw [add_block]; exact hn214_1) | (show (Addr.add _ _).block ≠ _; rw [add_block]; exact hn214_1) | exact hn214_1) (.slice none 0 0)).trans hx214_0; clear hn214_0; clear hn214_1; replace p214 := eq_true p214; replace q214 := eq_true q214) | ((with_reducible refine gate_dst (N := 44) rfl ?_); refine Kd.R_lit (Kd.int .i64) _ 3 ?hg (N := 44) ?hd (xs := ([] : List Int)) (inner := []) (ok := fun _ => True) (okp := fun _ => True) ?hr ?hp (fun _ hk => hk) trivial (Below.refl _ _) (Nat.le_refl _) (by simp) ?_; (case hd => rfl); (case hg => rfl); (case hr => first | (go_simp; done) | (go_simp; rfl)); (case hp => exact (Reps.none _ _)); intro v216 w52 ho53 hb hg_ hnew_; clear hg_ hnew_; (first | rw [← Ny215.out] at ho53 | (simp only [Int.reduceToNat] at ho53; rw [← Ny215.out] at ho53)); have HO217 := Aside0.mk (Kd.R_lower ho53 (below_size (zB HB))); replace BK207 := Aside0.mk (blk_below (g := gb207) (o := .cells #[.int .i64 a0_0, .int .i64 a0_1, .int .i64 a0_2, .int .i64 a0_3] 47 (0, 0)) (by (with_reducible repeat (first | refine blk_drewN ?_ _ | refine blk_drew ?_ | refine blk_alloc ?_ _)); refine blk_far ?_ NB207_210.out _; (with_reducible repeat (first | refine blk_drewN ?_ _ | refine blk_drew ?_ | refine blk_alloc ?_ _)); refine blk_far ?_ NB207_210.out _; (with_reducible repeat (first | refine blk_drewN ?_ _ | refine blk_drew ?_ | refine blk_alloc ?_ _)); exact BK207.out) hb); replace BK208 := Aside0.mk (blk_below (g := gb208) (o := .cells #[.int .i64 0, .slice none 0 0] 58 (0, 0)) (by (with_reducible repeat (first | refine blk_drewN ?_ _ | refine blk_drew ?_ | refine blk_alloc ?_ _)); refine blk_far ?_ NB208_210.out _; (with_reducible repeat (first | refine blk_drewN ?_ _ | refine blk_drew ?_ | refine blk_alloc ?_ _)); refine blk_far ?_ NB208_210.out _; (with_reducible repeat (first | refine blk_drewN ?_ _ | refine blk_drew ?_ | refine blk_alloc ?_ _)); exact BK208.out) hb); replace BK210 := Aside0.mk (blk_below (g := gb210) (o := .cells #[.int .i64 (rd l1 a2), .slice none 0 0] 58 (0, 0)) (by (with_reducible repeat (first | refine blk_drewN ?_ _ | refine blk_drew ?_ | refine blk_alloc ?_ _)); refine blk_put (cs := #[.int .i64 (rd l1 a2), .slice none 0 0]) ?_ 1 _ rfl; (with_reducible repeat (first | refine blk_drewN ?_ _ | refine blk_drew ?_ | refine blk_alloc ?_ _)); refine blk_put (cs := #[.int .i64 0, .slice none 0 0]) ?_ 0 _ rfl; (with_reducible repeat (first | refine blk_drewN ?_ _ | refine blk_drew ?_ | refine blk_alloc ?_ _)); exact BK210.out) hb); replace HB := bS HB hb; clear hb ho53; obtain ⟨i054, hi054, _, hsz54, _⟩ := info_parts info3; obtain ⟨A54, hcut54, hA54, hC54⟩ := print_mid_of (P := Try.prog) (Value.int .i64) 0 37 3 .i64 .i64 Try.underlying37 hi054 hsz54 (some ad209) c1 l1 (ji37) (wrap64 ((ji37) + (rd l1 a2))) (zD) (by first | omega | exact zD) (zD) HC1.out; have HR218 := Aside0.mk (Kd.C_of_reads (h1 := fun _ => rfl) (hA54 _ (Kd.reads_of_C HR1.out))); have HC218 := Aside0.mk hC54; clear hA54 hC54 hi054 hsz54) | ((with_reducible refine gate_builtin (b := .append) (xs := #[.tmp 44, .tmp 49]) rfl ?_); at_builtin; refine Kd.R_append_rows (Kd.int .i64) (w0 := w) w.heap.size rfl (.tmp 44) (.tmp 49) 37 3 (.int .i64 0) 8 rfl Try.underlying37 info3 rfl (by decide) (by omega) v216 y215 ((l1.take ((wrap64 ((ji37) + (rd l1 a2))) : Int).toNat).drop ((ji37) : Int).toNat) _ _ _ (fun _ => True) (fun _ => False) rfl rfl ?aO ?aR (fun _ _ h => h) (fun _ h => h.elim) ?aF ?aB ?aS ?aL ?_; (case aR => first | (have q_ := HR218.out; rw [show ((l1.take ((wrap64 ((ji37) + (rd l1 a2))) : Int).toNat).drop ((ji37) : Int).toNat).length = ((wrap64 ((ji37) + (rd l1 a2))).toNat - (ji37).toNat) from (by rw [List.length_drop, List.length_take]; have h_ : ((wrap64 ((ji37) + (rd l1 a2))) : Int) ≤ (l1.length : Int) := zD; omega)] at q_; repeat (first | exact (Kd.C_below q_ HB.out) | (with_reducible refine Kd.C_alloc ?_ _) | (with_reducible refine Kd.C_drewN ?_ _) | (with_reducible refine Kd.C_drew ?_)); done) | (rw [← show ((l1.take ((wrap64 ((ji37) + (rd l1 a2))) : Int).toNat).drop ((ji37) : Int).toNat).length = ((wrap64 ((ji37) + (rd l1 a2))).toNat - (ji37).toNat) from (by rw [List.length_drop, List.length_take]; have h_ : ((wrap64 ((ji37) + (rd l1 a2))) : Int) ≤ (l1.length : Int) := zD; omega)]; repeat (first | exact (Kd.C_below HR218.out HB.out) | (with_reducible refine Kd.C_alloc ?_ _) | (with_reducible refine Kd.C_drewN ?_ _) | (with_reducible refine Kd.C_drew ?_)); done) | (repeat (first | exact (Kd.C_below HR218.out HB.out) | (with_reducible refine Kd.C_alloc ?_ _) | (with_reducible refine Kd.C_drewN ?_ _) | (with_reducible refine Kd.C_drew ?_)))); (case aB => exact (zB HB)); (case aF => exact (fun _ _ => trivial)); (case aO => exact (zR HO217)); (case aS => exact (below_size (zB HB))); (case aL => have := LMc41.out; have hlx_ := (show ((l1.take ((wrap64 ((ji37) + (rd l1 a2))) : Int).toNat).drop ((ji37) : Int).toNat).length = ((wrap64 ((ji37) + (rd l1 a2))).toNat - (ji37).toNat) from (by rw [List.length_drop, List.length_take]; have h_ : ((wrap64 ((ji37) + (rd l1 a2))) : Int) ≤ (l1.length : Int) := zD; omega)); omega); intro v220 w55 ho hb hg hat; rw [← Ny219.out] at ho; replace BK207 := Aside0.mk (blk_grown (g := gb207) (o := .cells #[.int .i64 a0_0, .int .i64 a0_1, .int .i64 a0_2, .int .i64 a0_3] 47 (0, 0)) (zK BK207) hg (Kd.R_ne HO217.out BK207.out (by decide))); replace BK208 := Aside0.mk (blk_grown (g := gb208) (o := .cells #[.int .i64 0, .slice none 0 0] 58 (0, 0)) (zK BK208) hg (Kd.R_ne HO217.out BK208.out (by decide))); replace BK210 := Aside0.mk (blk_grown (g := gb210) (o := .cells #[.int .i64 (rd l1 a2), .slice none 0 0] 58 (0, 0)) (zK BK210) hg (Kd.R_ne HO217.out BK210.out (by decide))); replace HB := Aside0.mk (hb); have HO221 := Aside0.mk (ho); clear HO217; clear ho hb hg hat; obtain ⟨Ao56, co56, eo56⟩ := Kd.R_slice HO221.out; subst eo56; have hcz57_0 := bc0 BK210; have hcz57_1 := bc1 BK210; have hfz57_0 := bf BK210 0; have hfz57_1 := bf BK210 1; have hcz58_0 := bc0 BK207; have hcz58_1 := bc1 BK207; have hcz58_2 := bc2 BK207; have hcz58_3 := bc3 BK207; have hfz58_0 := bf BK207 0; have hfz58_1 := bf BK207 1; have hfz58_2 := bf BK207 2; have hfz58_3 := bf BK207 3) | ((with_reducible refine gate_callee (f := 58) rfl ?_); refine goesL_ (some 54) rfl rfl Try.func58 (by kernel_rfl) rfl #[.agg #[.int .i64 a0_0, .int .i64 a0_1, .int .i64 a0_2, .int .i64 a0_3], .agg #[.int .i64 0, .slice Ao56 y219.length co56]] rfl zG ?_; (with_reducible refine (spec_FitsField.calls k a0_0 a0_1 a0_2 a0_3 0 _ _ y219 true _ ?side1 ?side2 A42.out).mono ?_); (case side1 => refine (Kd.R_reads' (e := 3) (base := w.heap.size) (ok := fun k_ => True) (n := y219.length) (c := co56) ?_).2.2; exact (by (with_reducible repeat (first | apply Kd.R_alloc | apply Kd.R_drewN | apply Kd.R_drew)); exact (Kd.R_mono (Kd.R_far (p := ⟨gb210, 1, none⟩) (Kd.R_far (p := ⟨gb210, 0, none⟩) (Kd.R_types HO221.out BK210.out (by decide)) (fun _ hk => hk.2) (.int .i64 0)) (fun _ hk => hk.2) (.slice Ao56 y219.length co56)) (fun _ h_ => h_.1)))); (case side2 => exact (Kd.R_reads' HO221.out).2.1); rintro e w59 ⟨rfl, hb⟩; refine ⟨_, rfl, ?_⟩; replace HO221 := Aside0.mk (Kd.R_below (by (with_reducible repeat (first | apply Kd.R_alloc | apply Kd.R_drewN | apply Kd.R_drew)); exact (Kd.R_mono (Kd.R_far (p := ⟨gb210, 1, none⟩) (Kd.R_far (p := ⟨gb210, 0, none⟩) (Kd.R_types HO221.out BK210.out (by decide)) (fun _ hk => hk.2) (.int .i64 0)) (fun _ hk => hk.2) (.slice Ao56 y219.length co56)) (fun _ h_ => h_.1))) hb); replace BK207 := Aside0.mk (blk_below (g := gb207) (o := .cells #[.int .i64 a0_0, .int .i64 a0_1, .int .i64 a0_2, .int .i64 a0_3] 47 (0, 0)) (by (with_reducible repeat (first | refine blk_drewN ?_ _ | refine blk_drew ?_ | refine blk_alloc ?_ _)); refine blk_far ?_ NB207_210.out _; (with_reducible repeat (first | refine blk_drewN ?_ _ | refine blk_drew ?_ | refine blk_alloc ?_ _)); refine blk_far ?_ NB207_210.out _; (with_reducible repeat (first | refine blk_drewN ?_ _ | refine blk_drew ?_ | refine blk_alloc ?_ _)); exact BK207.out) hb); replace BK208 := Aside0.mk (blk_below (g := gb208) (o := .cells #[.int .i64 0, .slice none 0 0] 58 (0, 0)) (by (with_reducible repeat (first | refine blk_drewN ?_ _ | refine blk_drew ?_ | refine blk_alloc ?_ _)); refine blk_far ?_ NB208_210.out _; (with_reducible repeat (first | refine blk_drewN ?_ _ | refine blk_drew ?_ | refine blk_alloc ?_ _)); refine blk_far ?_ NB208_210.out _; (with_reducible repeat (first | refine blk_drewN ?_ _ | refine blk_drew ?_ | refine blk_alloc ?_ _)); exact BK208.out) hb); replace BK210 := Aside0.mk (blk_below (g := gb210) (o := .cells #[.int .i64 0, .slice Ao56 y219.length co56] 58 (0, 0)) (by (with_reducible repeat (first | refine blk_drewN ?_ _ | refine blk_drew ?_ | refine blk_alloc ?_ _)); refine blk_put (cs := #[.int .i64 0, .slice none 0 0]) ?_ 1 _ rfl; (with_reducible repeat (first | refine blk_drewN ?_ _ | refine blk_drew ?_ | refine blk_alloc ?_ _)); refine blk_put (cs := #[.int .i64 (rd l1 a2), .slice none 0 0]) ?_ 0 _ rfl; (with_reducible repeat (first | refine blk_drewN ?_ _ | refine blk_drew ?_ | refine blk_alloc ?_ _)); exact BK210.out) hb); replace HB := bS HB hb; (try clear hb); have hcz60_0 := bc0 BK210; have hcz60_1 := bc1 BK210; have hfz60_0 := bf BK210 0; have hfz60_1 := bf BK210 1; have hcz61_0 := bc0 BK208; have hcz61_1 := bc1 BK208; have hfz61_0 := bf BK208 0; have hfz61_1 := bf BK208 1))
      refine bodyPost_ret (results_ct rfl _ _ gb208 58 #[.int .i64 0, .slice Ao56 y219.length co56] (0, 0) _ rfl (by (with_reducible repeat (first | refine blk_drewN ?_ _ | refine blk_drew ?_ | refine blk_alloc ?_ _)); refine blk_put (cs := #[.int .i64 0, .slice none 0 0]) ?_ 1 _ rfl; (with_reducible repeat (first | refine blk_drewN ?_ _ | refine blk_drew ?_ | refine blk_alloc ?_ _)); refine blk_put (cs := #[.int .i64 0, .slice none 0 0]) ?_ 0 _ rfl; (with_reducible repeat (first | refine blk_drewN ?_ _ | refine blk_drew ?_ | refine blk_alloc ?_ _)); exact BK208.out) Try.underlying58 rfl (by kernel_rfl)) rfl ?_
      exact ⟨_, by first | rfl | (simp [errW_none, errW_some] <;> rfl) | (simp only [← hji37]; first | rfl | (simp [errW_none, errW_some] <;> rfl)) | (simp [*, errW_none, errW_some] <;> rfl), by (with_reducible repeat (first | apply Kd.R_alloc | apply Kd.R_drewN | apply Kd.R_drew)); exact Kd.R_mono (Kd.R_far (p := ⟨gb208, 1, none⟩) (Kd.R_far (p := ⟨gb208, 0, none⟩) (Kd.R_types HO221.out BK208.out (by decide)) (fun _ hk => hk.2) (.int .i64 0)) (fun _ hk => hk.2) (.slice Ao56 y219.length co56)) (fun _ hk => trivial), zB HB⟩
     ·replace c43 := Bool.eq_false_iff.mpr c43
      subst c43
      have H1 : (some (0, ([] : List Int), (-1))) = some (r1, r2, r3) := by rw [if_neg (show ¬ (false = true) by decide)] at H; exact H
      clear H
      have H := H1
      clear H1
      simp only [Option.some.injEq, Prod.mk.injEq] at H
      obtain ⟨rfl, rfl, rfl⟩ := H
      go_enter Try.func44, Try.ntmps44
      go_wp2_with (first | ((with_reducible refine gate_dst (N := 3) rfl ?_); refine box_event ?hg (N := 3) ?hd (cs := #[.int .i64 a0_0, .int .i64 a0_1, .int .i64 a0_2, .int .i64 a0_3]) (t := 47) ?hr ?_; (case hd => rfl); (case hg => rfl); (case hr => first | (go_simp; done) | (go_simp; rfl)); intro gb207 hg w62 hbox hb; have BK207 := Aside0.mk (hbox); have GW207 := gS HB hg; have GE207 := gS HB hg; replace HB := bS HB hb; clear hb hbox hg) | ((with_reducible refine gate_dst (N := 6) rfl ?_); refine box_event ?hg (N := 6) ?hd (cs := #[.int .i64 0, .slice none 0 0]) (t := 58) ?hr ?_; (case hd => rfl); (case hg => rfl); (case hr => first | (go_simp; done) | (go_simp; rfl)); intro gb208 hg w63 hbox hb; have BK208 := Aside0.mk (hbox); have GW208 := gS HB hg; have GE208 := gS HB hg; replace HB := bS HB hb; have NB207_208 := nL BK207 hg; have NB208_207 := nR BK207 hg; replace BK207 := kB BK207 hb; clear hb hbox hg; have p209 : 0 ≤ (a2 : Int) := zD; have q209 : a2 < (l1.length : Int) := zD; obtain ⟨ad209, e209, hx209_0⟩ := Kd.at_int HR1.out a2 p209 q209; cases e209; replace hx209_0 := hL HB hx209_0; replace p209 := eq_true p209; replace q209 := eq_true q209) | ((with_reducible refine gate_dst (N := 8) rfl ?_); refine box_event ?hg (N := 8) ?hd (cs := #[.int .i64 0, .slice none 0 0]) (t := 58) ?hr ?_; (case hd => rfl); (case hg => rfl); (case hr => first | (go_simp; done) | (go_simp; rfl)); intro gb210 hg w64 hbox hb; have BK210 := Aside0.mk (hbox); have GW210 := gS HB hg; have GE210 := gS HB hg; replace HB := bS HB hb; have NB207_210 := nL BK207 hg; have NB210_207 := nR BK207 hg; replace BK207 := kB BK207 hb; have NB208_210 := nL BK208 hg; have NB210_208 := nR BK208 hg; replace BK208 := kB BK208 hb; clear hb hbox hg; have hnb65 := NB210_207.out; have hnc65 := NB207_210.out; have hnb66 := NB210_208.out; have hnc66 := NB208_210.out; have hcz67_0 := bc0 BK210; have hcz67_1 := bc1 BK210; have hfz67_0 := bf BK210 0; have hfz67_1 := bf BK210 1; have hnb68 := NB207_208.out; have hnc68 := NB208_207.out; have hcz69_0 := bc0 BK207; have hcz69_1 := bc1 BK207; have hcz69_2 := bc2 BK207; have hcz69_3 := bc3 BK207; have hfz69_0 := bf BK207 0; have hfz69_1 := bf BK207 1; have hfz69_2 := bf BK207 2; have hfz69_3 := bf BK207 3; have p212 : 0 ≤ (a2 : Int) := zD; have q212 : a2 < (l1.length : Int) := zD; obtain ⟨ad212, e212, hx212_0⟩ := Kd.at_int HR1.out a2 p212 q212; obtain rfl : ad209 = ad212 := (by injection e212); have hn212_0 : ad209.block ≠ gb210 := Nat.ne_of_lt (Nat.lt_of_lt_of_le (by have := World.block_lt_of_cell? _ _ hx212_0; first | rwa [add_block] at this | exact this) GW210.out); have hn212_1 : ad209.block ≠ gb210 := Nat.ne_of_lt (Nat.lt_of_lt_of_le (by have := World.block_lt_of_cell? _ _ hx212_0; first | rwa [add_block] at this | exact this) GW210.out); replace hx212_0 := hL HB hx212_0; replace hx212_0 := (cell_far (p := ⟨gb210, 0, none⟩) (by first | (rw [add_block]; exact hn212_0) | (show (Addr.add _ _).block ≠ _; rw [add_block]; exact hn212_0) | exact hn212_0) (.int .i64 (rd l1 a2))).trans hx212_0; replace hx212_0 := (cell_far (p := ⟨gb210, 1, none⟩) (by first | (rw [add_block]; exact hn212_1) | (show (Addr.add _ _).block ≠ _; rw [add_block]; exact hn212_1) | exact hn212_1) (.slice none 0 0)).trans hx212_0; clear hn212_0; clear hn212_1; replace p212 := eq_true p212; replace q212 := eq_true q212) | ((with_reducible refine gate_callee (f := 49) rfl ?_); refine goesL_ (some 34) rfl rfl Try.func49 (by kernel_rfl) rfl #[.int .i64 (rd l1 a2), .int .i64 0, .int .i64 (wrap64 ((wrap64 ((l1.length : Int) - a2)) - 1))] rfl zG ?_; (with_reducible refine (spec_l1In.calls (rd l1 a2) 0 (wrap64 ((wrap64 ((l1.length : Int) - a2)) - 1)) true _ A35.out).mono ?_); rintro e w' ⟨rfl, ⟨nd, rfl⟩⟩; refine ⟨_, rfl, ?_⟩; have p214 : 0 ≤ (a2 : Int) := zD; have q214 : a2 < (l1.length : Int) := zD; obtain ⟨ad214, e214, hx214_0⟩ := Kd.at_int HR1.out a2 p214 q214; obtain rfl : ad209 = ad214 := (by injection e214); have hn214_0 : ad209.block ≠ gb210 := Nat.ne_of_lt (Nat.lt_of_lt_of_le (by have := World.block_lt_of_cell? _ _ hx214_0; first | rwa [add_block] at this | exact this) GW210.out); have hn214_1 : ad209.block ≠ gb210 := Nat.ne_of_lt (Nat.lt_of_lt_of_le (by have := World.block_lt_of_cell? _ _ hx214_0; first | rwa [add_block] at this | exact this) GW210.out); replace hx214_0 := hL HB hx214_0; replace hx214_0 := (cell_far (p := ⟨gb210, 0, none⟩) (by first | (rw [add_block]; exact hn214_0) | (show (Addr.add _ _).block ≠ _; rw [add_block]; exact hn214_0) | exact hn214_0) (.int .i64 (rd l1 a2))).trans hx214_0; replace hx214_0 := (cell_far (p := ⟨gb210, 1, none⟩) (by first | (rw [add_block]; exact hn214_1) | (show (Addr.add _ _).block ≠ _; rw [add_block]; exact hn214_1) | exact hn214_1) (.slice none 0 0)).trans hx214_0; clear hn214_0; clear hn214_1; replace p214 := eq_true p214; replace q214 := eq_true q214) | ((with_reducible refine gate_dst (N := 44) rfl ?_); refine Kd.R_lit (Kd.int .i64) _ 3 ?hg (N := 44) ?hd (xs := ([] : List Int)) (inner := []) (ok := fun _ => True) (okp := fun _ => True) ?hr ?hp (fun _ hk => hk) trivial (Below.refl _ _) (Nat.le_refl _) (by simp) ?_; (case hd => rfl); (case hg => rfl); (case hr => first | (go_simp; done) | (go_simp; rfl)); (case hp => exact (Reps.none _ _)); intro v216 w70 ho71 hb hg_ hnew_; clear hg_ hnew_; (first | rw [← Ny215.out] at ho71 | (simp only [Int.reduceToNat] at ho71; rw [← Ny215.out] at ho71)); have HO217 := Aside0.mk (Kd.R_lower ho71 (below_size (zB HB))); replace BK207 := Aside0.mk (blk_below (g := gb207) (o := .cells #[.int .i64 a0_0, .int .i64 a0_1, .int .i64 a0_2, .int .i64 a0_3] 47 (0, 0)) (by (with_reducible repeat (first | refine blk_drewN ?_ _ | refine blk_drew ?_ | refine blk_alloc ?_ _)); refine blk_far ?_ NB207_210.out _; (with_reducible repeat (first | refine blk_drewN ?_ _ | refine blk_drew ?_ | refine blk_alloc ?_ _)); refine blk_far ?_ NB207_210.out _; (with_reducible repeat (first | refine blk_drewN ?_ _ | refine blk_drew ?_ | refine blk_alloc ?_ _)); exact BK207.out) hb); replace BK208 := Aside0.mk (blk_below (g := gb208) (o := .cells #[.int .i64 0, .slice none 0 0] 58 (0, 0)) (by (with_reducible repeat (first | refine blk_drewN ?_ _ | refine blk_drew ?_ | refine blk_alloc ?_ _)); refine blk_far ?_ NB208_210.out _; (with_reducible repeat (first | refine blk_drewN ?_ _ | refine blk_drew ?_ | refine blk_alloc ?_ _)); refine blk_far ?_ NB208_210.out _; (with_reducible repeat (first | refine blk_drewN ?_ _ | refine blk_drew ?_ | refine blk_alloc ?_ _)); exact BK208.out) hb); replace BK210 := Aside0.mk (blk_below (g := gb210) (o := .cells #[.int .i64 (rd l1 a2), .slice none 0 0] 58 (0, 0)) (by (with_reducible repeat (first | refine blk_drewN ?_ _ | refine blk_drew ?_ | refine blk_alloc ?_ _)); refine blk_put (cs := #[.int .i64 (rd l1 a2), .slice none 0 0]) ?_ 1 _ rfl; (with_reducible repeat (first | refine blk_drewN ?_ _ | refine blk_drew ?_ | refine blk_alloc ?_ _)); refine blk_put (cs := #[.int .i64 0, .slice none 0 0]) ?_ 0 _ rfl; (with_reducible repeat (first | refine blk_drewN ?_ _ | refine blk_drew ?_ | refine blk_alloc ?_ _)); exact BK210.out) hb); replace HB := bS HB hb; clear hb ho71; obtain ⟨i072, hi072, _, hsz72, _⟩ := info_parts info3; obtain ⟨A72, hcut72, hA72, hC72⟩ := print_mid_of (P := Try.prog) (Value.int .i64) 0 37 3 .i64 .i64 Try.underlying37 hi072 hsz72 (some ad209) c1 l1 (ji37) (wrap64 ((ji37) + (rd l1 a2))) (zD) (by first | omega | exact zD) (zD) HC1.out; have HR218 := Aside0.mk (Kd.C_of_reads (h1 := fun _ => rfl) (hA72 _ (Kd.reads_of_C HR1.out))); have HC218 := Aside0.mk hC72; clear hA72 hC72 hi072 hsz72) | ((with_reducible refine gate_builtin (b := .append) (xs := #[.tmp 44, .tmp 49]) rfl ?_); at_builtin; refine Kd.R_append_rows (Kd.int .i64) (w0 := w) w.heap.size rfl (.tmp 44) (.tmp 49) 37 3 (.int .i64 0) 8 rfl Try.underlying37 info3 rfl (by decide) (by omega) v216 y215 ((l1.take ((wrap64 ((ji37) + (rd l1 a2))) : Int).toNat).drop ((ji37) : Int).toNat) _ _ _ (fun _ => True) (fun _ => False) rfl rfl ?aO ?aR (fun _ _ h => h) (fun _ h => h.elim) ?aF ?aB ?aS ?aL ?_; (case aR => first | (have q_ := HR218.out; rw [show ((l1.take ((wrap64 ((ji37) + (rd l1 a2))) : Int).toNat).drop ((ji37) : Int).toNat).length = ((wrap64 ((ji37) + (rd l1 a2))).toNat - (ji37).toNat) from (by rw [List.length_drop, List.length_take]; have h_ : ((wrap64 ((ji37) + (rd l1 a2))) : Int) ≤ (l1.length : Int) := zD; omega)] at q_; repeat (first | exact (Kd.C_below q_ HB.out) | (with_reducible refine Kd.C_alloc ?_ _) | (with_reducible refine Kd.C_drewN ?_ _) | (with_reducible refine Kd.C_drew ?_)); done) | (rw [← show ((l1.take ((wrap64 ((ji37) + (rd l1 a2))) : Int).toNat).drop ((ji37) : Int).toNat).length = ((wrap64 ((ji37) + (rd l1 a2))).toNat - (ji37).toNat) from (by rw [List.length_drop, List.length_take]; have h_ : ((wrap64 ((ji37) + (rd l1 a2))) : Int) ≤ (l1.length : Int) := zD; omega)]; repeat (first | exact (Kd.C_below HR218.out HB.out) | (with_reducible refine Kd.C_alloc ?_ _) | (with_reducible refine Kd.C_drewN ?_ _) | (with_reducible refine Kd.C_drew ?_)); done) | (repeat (first | exact (Kd.C_below HR218.out HB.out) | (with_reducible refine Kd.C_alloc ?_ _) | (with_reducible refine Kd.C_drewN ?_ _) | (with_reducible refine Kd.C_drew ?_)))); (case aB => exact (zB HB)); (case aF => exact (fun _ _ => trivial)); (case aO => exact (zR HO217)); (case aS => exact (below_size (zB HB))); (case aL => have := LMc41.out; have hlx_ := (show ((l1.take ((wrap64 ((ji37) + (rd l1 a2))) : Int).toNat).drop ((ji37) : Int).toNat).length = ((wrap64 ((ji37) + (rd l1 a2))).toNat - (ji37).toNat) from (by rw [List.length_drop, List.length_take]; have h_ : ((wrap64 ((ji37) + (rd l1 a2))) : Int) ≤ (l1.length : Int) := zD; omega)); omega); intro v220 w73 ho hb hg hat; rw [← Ny219.out] at ho; replace BK207 := Aside0.mk (blk_grown (g := gb207) (o := .cells #[.int .i64 a0_0, .int .i64 a0_1, .int .i64 a0_2, .int .i64 a0_3] 47 (0, 0)) (zK BK207) hg (Kd.R_ne HO217.out BK207.out (by decide))); replace BK208 := Aside0.mk (blk_grown (g := gb208) (o := .cells #[.int .i64 0, .slice none 0 0] 58 (0, 0)) (zK BK208) hg (Kd.R_ne HO217.out BK208.out (by decide))); replace BK210 := Aside0.mk (blk_grown (g := gb210) (o := .cells #[.int .i64 (rd l1 a2), .slice none 0 0] 58 (0, 0)) (zK BK210) hg (Kd.R_ne HO217.out BK210.out (by decide))); replace HB := Aside0.mk (hb); have HO221 := Aside0.mk (ho); clear HO217; clear ho hb hg hat; obtain ⟨Ao74, co74, eo74⟩ := Kd.R_slice HO221.out; subst eo74; have hcz75_0 := bc0 BK210; have hcz75_1 := bc1 BK210; have hfz75_0 := bf BK210 0; have hfz75_1 := bf BK210 1; have hcz76_0 := bc0 BK207; have hcz76_1 := bc1 BK207; have hcz76_2 := bc2 BK207; have hcz76_3 := bc3 BK207; have hfz76_0 := bf BK207 0; have hfz76_1 := bf BK207 1; have hfz76_2 := bf BK207 2; have hfz76_3 := bf BK207 3) | ((with_reducible refine gate_callee (f := 58) rfl ?_); refine goesL_ (some 54) rfl rfl Try.func58 (by kernel_rfl) rfl #[.agg #[.int .i64 a0_0, .int .i64 a0_1, .int .i64 a0_2, .int .i64 a0_3], .agg #[.int .i64 0, .slice Ao74 y219.length co74]] rfl zG ?_; (with_reducible refine (spec_FitsField.calls k a0_0 a0_1 a0_2 a0_3 0 _ _ y219 false _ ?side1 ?side2 A42.out).mono ?_); (case side1 => refine (Kd.R_reads' (e := 3) (base := w.heap.size) (ok := fun k_ => True) (n := y219.length) (c := co74) ?_).2.2; exact (by (with_reducible repeat (first | apply Kd.R_alloc | apply Kd.R_drewN | apply Kd.R_drew)); exact (Kd.R_mono (Kd.R_far (p := ⟨gb210, 1, none⟩) (Kd.R_far (p := ⟨gb210, 0, none⟩) (Kd.R_types HO221.out BK210.out (by decide)) (fun _ hk => hk.2) (.int .i64 0)) (fun _ hk => hk.2) (.slice Ao74 y219.length co74)) (fun _ h_ => h_.1)))); (case side2 => exact (Kd.R_reads' HO221.out).2.1); rintro e w77 ⟨rfl, hb⟩; refine ⟨_, rfl, ?_⟩; replace HO221 := Aside0.mk (Kd.R_below (by (with_reducible repeat (first | apply Kd.R_alloc | apply Kd.R_drewN | apply Kd.R_drew)); exact (Kd.R_mono (Kd.R_far (p := ⟨gb210, 1, none⟩) (Kd.R_far (p := ⟨gb210, 0, none⟩) (Kd.R_types HO221.out BK210.out (by decide)) (fun _ hk => hk.2) (.int .i64 0)) (fun _ hk => hk.2) (.slice Ao74 y219.length co74)) (fun _ h_ => h_.1))) hb); replace BK207 := Aside0.mk (blk_below (g := gb207) (o := .cells #[.int .i64 a0_0, .int .i64 a0_1, .int .i64 a0_2, .int .i64 a0_3] 47 (0, 0)) (by (with_reducible repeat (first | refine blk_drewN ?_ _ | refine blk_drew ?_ | refine blk_alloc ?_ _)); refine blk_far ?_ NB207_210.out _; (with_reducible repeat (first | refine blk_drewN ?_ _ | refine blk_drew ?_ | refine blk_alloc ?_ _)); refine blk_far ?_ NB207_210.out _; (with_reducible repeat (first | refine blk_drewN ?_ _ | refine blk_drew ?_ | refine blk_alloc ?_ _)); exact BK207.out) hb); replace BK208 := Aside0.mk (blk_below (g := gb208) (o := .cells #[.int .i64 0, .slice none 0 0] 58 (0, 0)) (by (with_reducible repeat (first | refine blk_drewN ?_ _ | refine blk_drew ?_ | refine blk_alloc ?_ _)); refine blk_far ?_ NB208_210.out _; (with_reducible repeat (first | refine blk_drewN ?_ _ | refine blk_drew ?_ | refine blk_alloc ?_ _)); refine blk_far ?_ NB208_210.out _; (with_reducible repeat (first | refine blk_drewN ?_ _ | refine blk_drew ?_ | refine blk_alloc ?_ _)); exact BK208.out) hb); replace BK210 := Aside0.mk (blk_below (g := gb210) (o := .cells #[.int .i64 0, .slice Ao74 y219.length co74] 58 (0, 0)) (by (with_reducible repeat (first | refine blk_drewN ?_ _ | refine blk_drew ?_ | refine blk_alloc ?_ _)); refine blk_put (cs := #[.int .i64 0, .slice none 0 0]) ?_ 1 _ rfl; (with_reducible repeat (first | refine blk_drewN ?_ _ | refine blk_drew ?_ | refine blk_alloc ?_ _)); refine blk_put (cs := #[.int .i64 (rd l1 a2), .slice none 0 0]) ?_ 0 _ rfl; (with_reducible repeat (first | refine blk_drewN ?_ _ | refine blk_drew ?_ | refine blk_alloc ?_ _)); exact BK210.out) hb); replace HB := bS HB hb; (try clear hb); have hcz78_0 := bc0 BK208; have hcz78_1 := bc1 BK208; have hfz78_0 := bf BK208 0; have hfz78_1 := bf BK208 1))
      refine bodyPost_ret (results_ct rfl _ _ gb208 58 #[.int .i64 0, .slice none 0 0] (0, 0) _ rfl (by (with_reducible repeat (first | refine blk_drewN ?_ _ | refine blk_drew ?_ | refine blk_alloc ?_ _)); refine blk_put (cs := #[.int .i64 0, .slice none 0 0]) ?_ 1 _ rfl; (with_reducible repeat (first | refine blk_drewN ?_ _ | refine blk_drew ?_ | refine blk_alloc ?_ _)); refine blk_put (cs := #[.int .i64 0, .slice none 0 0]) ?_ 0 _ rfl; (with_reducible repeat (first | refine blk_drewN ?_ _ | refine blk_drew ?_ | refine blk_alloc ?_ _)); exact BK208.out) Try.underlying58 rfl (by kernel_rfl)) rfl ?_
      exact ⟨_, by first | rfl | (simp [errW_none, errW_some] <;> rfl) | (simp only [← hji37]; first | rfl | (simp [errW_none, errW_some] <;> rfl)) | (simp [*, errW_none, errW_some] <;> rfl), by first | exact Kd.R_nil _ _ _ _ _ | exact Kd.N_nil _ _ _ _ _ | exact Kd.V_nil _ _ _ _ _ | exact Kd.Q_nil _ _ _ _ _ | exact Kd.S_nil _ _ _ _ _, zB HB⟩
    ·replace c36 := Bool.eq_false_iff.mpr c36
     subst c36
     have H1 : (some (0, ([] : List Int), (-1))) = some (r1, r2, r3) := by rw [if_neg (show ¬ (false = true) by decide)] at H; exact H
     clear H
     have H := H1
     clear H1
     simp only [Option.some.injEq, Prod.mk.injEq] at H
     obtain ⟨rfl, rfl, rfl⟩ := H
     go_enter Try.func44, Try.ntmps44
     go_wp2_with (first | ((with_reducible refine gate_dst (N := 3) rfl ?_); refine box_event ?hg (N := 3) ?hd (cs := #[.int .i64 a0_0, .int .i64 a0_1, .int .i64 a0_2, .int .i64 a0_3]) (t := 47) ?hr ?_; (case hd => rfl); (case hg => rfl); (case hr => first | (go_simp; done) | (go_simp; rfl)); intro gb207 hg w79 hbox hb; have BK207 := Aside0.mk (hbox); have GW207 := gS HB hg; have GE207 := gS HB hg; replace HB := bS HB hb; clear hb hbox hg) | ((with_reducible refine gate_dst (N := 6) rfl ?_); refine box_event ?hg (N := 6) ?hd (cs := #[.int .i64 0, .slice none 0 0]) (t := 58) ?hr ?_; (case hd => rfl); (case hg => rfl); (case hr => first | (go_simp; done) | (go_simp; rfl)); intro gb208 hg w80 hbox hb; have BK208 := Aside0.mk (hbox); have GW208 := gS HB hg; have GE208 := gS HB hg; replace HB := bS HB hb; have NB207_208 := nL BK207 hg; have NB208_207 := nR BK207 hg; replace BK207 := kB BK207 hb; clear hb hbox hg; have p209 : 0 ≤ (a2 : Int) := zD; have q209 : a2 < (l1.length : Int) := zD; obtain ⟨ad209, e209, hx209_0⟩ := Kd.at_int HR1.out a2 p209 q209; cases e209; replace hx209_0 := hL HB hx209_0; replace p209 := eq_true p209; replace q209 := eq_true q209) | ((with_reducible refine gate_dst (N := 8) rfl ?_); refine box_event ?hg (N := 8) ?hd (cs := #[.int .i64 0, .slice none 0 0]) (t := 58) ?hr ?_; (case hd => rfl); (case hg => rfl); (case hr => first | (go_simp; done) | (go_simp; rfl)); intro gb210 hg w81 hbox hb; have BK210 := Aside0.mk (hbox); have GW210 := gS HB hg; have GE210 := gS HB hg; replace HB := bS HB hb; have NB207_210 := nL BK207 hg; have NB210_207 := nR BK207 hg; replace BK207 := kB BK207 hb; have NB208_210 := nL BK208 hg; have NB210_208 := nR BK208 hg; replace BK208 := kB BK208 hb; clear hb hbox hg; have hnb82 := NB210_207.out; have hnc82 := NB207_210.out; have hnb83 := NB210_208.out; have hnc83 := NB208_210.out; have hcz84_0 := bc0 BK210; have hcz84_1 := bc1 BK210; have hfz84_0 := bf BK210 0; have hfz84_1 := bf BK210 1; have hnb85 := NB207_208.out; have hnc85 := NB208_207.out; have hcz86_0 := bc0 BK207; have hcz86_1 := bc1 BK207; have hcz86_2 := bc2 BK207; have hcz86_3 := bc3 BK207; have hfz86_0 := bf BK207 0; have hfz86_1 := bf BK207 1; have hfz86_2 := bf BK207 2; have hfz86_3 := bf BK207 3; have p212 : 0 ≤ (a2 : Int) := zD; have q212 : a2 < (l1.length : Int) := zD; obtain ⟨ad212, e212, hx212_0⟩ := Kd.at_int HR1.out a2 p212 q212; obtain rfl : ad209 = ad212 := (by injection e212); have hn212_0 : ad209.block ≠ gb210 := Nat.ne_of_lt (Nat.lt_of_lt_of_le (by have := World.block_lt_of_cell? _ _ hx212_0; first | rwa [add_block] at this | exact this) GW210.out); have hn212_1 : ad209.block ≠ gb210 := Nat.ne_of_lt (Nat.lt_of_lt_of_le (by have := World.block_lt_of_cell? _ _ hx212_0; first | rwa [add_block] at this | exact this) GW210.out); replace hx212_0 := hL HB hx212_0; replace hx212_0 := (cell_far (p := ⟨gb210, 0, none⟩) (by first | (rw [add_block]; exact hn212_0) | (show (Addr.add _ _).block ≠ _; rw [add_block]; exact hn212_0) | exact hn212_0) (.int .i64 (rd l1 a2))).trans hx212_0; replace hx212_0 := (cell_far (p := ⟨gb210, 1, none⟩) (by first | (rw [add_block]; exact hn212_1) | (show (Addr.add _ _).block ≠ _; rw [add_block]; exact hn212_1) | exact hn212_1) (.slice none 0 0)).trans hx212_0; clear hn212_0; clear hn212_1; replace p212 := eq_true p212; replace q212 := eq_true q212) | ((with_reducible refine gate_callee (f := 49) rfl ?_); refine goesL_ (some 34) rfl rfl Try.func49 (by kernel_rfl) rfl #[.int .i64 (rd l1 a2), .int .i64 0, .int .i64 (wrap64 ((wrap64 ((l1.length : Int) - a2)) - 1))] rfl zG ?_; (with_reducible refine (spec_l1In.calls (rd l1 a2) 0 (wrap64 ((wrap64 ((l1.length : Int) - a2)) - 1)) false _ A35.out).mono ?_); rintro e w' ⟨rfl, ⟨nd, rfl⟩⟩; refine ⟨_, rfl, ?_⟩; have hcz87_0 := bc0 BK208; have hcz87_1 := bc1 BK208; have hfz87_0 := bf BK208 0; have hfz87_1 := bf BK208 1))
     refine bodyPost_ret (results_ct rfl _ _ gb208 58 #[.int .i64 0, .slice none 0 0] (0, 0) _ rfl (by (with_reducible repeat (first | refine blk_drewN ?_ _ | refine blk_drew ?_ | refine blk_alloc ?_ _)); refine blk_put (cs := #[.int .i64 0, .slice none 0 0]) ?_ 1 _ rfl; (with_reducible repeat (first | refine blk_drewN ?_ _ | refine blk_drew ?_ | refine blk_alloc ?_ _)); refine blk_put (cs := #[.int .i64 0, .slice none 0 0]) ?_ 0 _ rfl; (with_reducible repeat (first | refine blk_drewN ?_ _ | refine blk_drew ?_ | refine blk_alloc ?_ _)); refine blk_far ?_ NB208_210.out _; (with_reducible repeat (first | refine blk_drewN ?_ _ | refine blk_drew ?_ | refine blk_alloc ?_ _)); refine blk_far ?_ NB208_210.out _; (with_reducible repeat (first | refine blk_drewN ?_ _ | refine blk_drew ?_ | refine blk_alloc ?_ _)); exact BK208.out) Try.underlying58 rfl (by kernel_rfl)) rfl ?_
     exact ⟨_, zE, by first | exact Kd.R_nil _ _ _ _ _ | exact Kd.N_nil _ _ _ _ _ | exact Kd.V_nil _ _ _ _ _ | exact Kd.Q_nil _ _ _ _ _ | exact Kd.S_nil _ _ _ _ _, zB HB⟩
  ·rw [if_neg c9] at H
   exact absurd H (by simp)

/-! ### spec_ReadPrefix: function 24 -/
def spec_ReadPrefix.l0 : Nat → List (S47) → List Int → List (S58) → Int → Int → Option ((List (S58)) × Int)
 | 0, _, _, _, _, _ => none
 | k + 1, x0, x1, x6, x7, x8 => if x8 < (x0.length : Int) then ((spec_IsThere.f x0 x6 x8).bind fun t227 => (if t227 = true then (if 0 ≤ x8 then ((spec_l6Read.f k ((rd_T47 x0 x8).f0) ((rd_T47 x0 x8).f1) ((rd_T47 x0 x8).f2) ((rd_T47 x0 x8).f3) x1 x7).bind fun bt229 => (if bt229.2.2 < 0 then (some ((([] : List (S58))), (-1))) else (if x6.length < 4398046511104 then (spec_ReadPrefix.l0 k x0 x1 (x6 ++ [(⟨bt229.1, bt229.2.1⟩ : S58)]) bt229.2.2 (wrap64 (x8 + 1))) else (none)))) else (none)) else (if x6.length < 4398046511104 then (spec_ReadPrefix.l0 k x0 x1 (x6 ++ [(⟨0, ([] : List Int)⟩ : S58)]) x7 (wrap64 (x8 + 1))) else (none)))) else (some (x6, x7))
def spec_ReadPrefix.f (k : Nat) (l0 : List (S47)) (l1 : List Int) : Option ((List (S58)) × Int) := (some (([] : List (S58)) : List (S58))).bind fun y223 => ((spec_IsFormat.f k l0).bind fun t226 => (if t226 = true then (spec_ReadPrefix.l0 k l0 l1 y223 0 0) else (some (y223, (-1)))))
theorem spec_ReadPrefix.mono_l : ∀ k, (∀ y0 y1 y2 y3 y4, LeO (spec_ReadPrefix.l0 k y0 y1 y2 y3 y4) (spec_ReadPrefix.l0 (k + 1) y0 y1 y2 y3 y4))
 | 0 => fun _ _ _ _ _ r h => by simp [spec_ReadPrefix.l0] at h
 | k + 1 => by
  have ih0 := spec_ReadPrefix.mono_l k
  ·intro y0 y1 y2 y3 y4
   unfold spec_ReadPrefix.l0
   repeat' first
   | (with_reducible exact ih0 _ _ _ _ _)
   | (with_reducible exact spec_IsFormat.mono _ _)
   | (with_reducible exact spec_l6Read.mono _ _ _ _ _ _ _)
   | (with_reducible exact LeO.refl _)
   | (with_reducible exact LeO.none _)
   | (with_reducible refine LeO.ite ?_ ?_)
   | (with_reducible refine LeO.bind ?_ (fun _ => ?_))
   | exact ih0 _ _ _ _ _
   | exact spec_IsFormat.mono _ _
   | exact spec_l6Read.mono _ _ _ _ _ _ _
   | exact LeO.none _
   | refine LeO.ite ?_ ?_
   | refine LeO.bind ?_ (fun _ => ?_)
theorem spec_ReadPrefix.mono : ∀ a0 a1 k, LeO (spec_ReadPrefix.f k a0 a1) (spec_ReadPrefix.f (k + 1) a0 a1) := by
 intro a0 a1 k
 have ih0 := spec_ReadPrefix.mono_l k
 unfold spec_ReadPrefix.f
 repeat' first
   | (with_reducible exact ih0 _ _ _ _ _)
   | (with_reducible exact spec_IsFormat.mono _ _)
   | (with_reducible exact spec_l6Read.mono _ _ _ _ _ _ _)
   | (with_reducible exact LeO.refl _)
   | (with_reducible exact LeO.none _)
   | (with_reducible refine LeO.ite ?_ ?_)
   | (with_reducible refine LeO.bind ?_ (fun _ => ?_))
   | exact ih0 _ _ _ _ _
   | exact spec_IsFormat.mono _ _
   | exact spec_l6Read.mono _ _ _ _ _ _ _
   | exact LeO.none _
   | refine LeO.ite ?_ ?_
   | refine LeO.bind ?_ (fun _ => ?_)
set_option maxHeartbeats 8000000 in
set_option maxRecDepth 100000 in
theorem spec_ReadPrefix.calls (k : Nat) (A0 : Option Addr) (c0 : Nat) (l0 : List (S47)) (A1 : Option Addr) (c1 : Nat) (l1 : List Int) (r1 : List (S58)) (r2 : Int) (w : World) (hr0 : Kd.C k47 w A0 l0.length l0) (hc0 : l0.length ≤ c0) (hr1 : Kd.C (Kd.int .i64) w A1 l1.length l1) (hc1 : l1.length ≤ c1) (h : spec_ReadPrefix.f k l0 l1 = some (r1, r2)) :
  Calls Try.prog 24 #[.slice A0 l0.length c0, .slice A1 l1.length c1] w fun e w' => ∃ v0_ : Value, e = .returned (.tuple #[v0_, .int .i64 r2]) ∧ Kd.S k58 58 w' w.heap.size (fun _ => True) v0_ r1 ∧ Below w.heap.size w w' := by
 have hu58 := Try.underlying58
 have hu47 := Try.underlying47
 have HR0 := Aside0.mk hr0
 have HC0 := Aside0.mk hc0
 clear hr0 hc0
 have HR1 := Aside0.mk hr1
 have HC1 := Aside0.mk hc1
 clear hr1 hc1
 have HB := Aside0.mk (Below.refl w.heap.size w)
 have H : ((some (([] : List (S58)) : List (S58))).bind fun y223 => ((spec_IsFormat.f k l0).bind fun t226 => (if t226 = true then (spec_ReadPrefix.l0 k l0 l1 y223 0 0) else (some (y223, (-1)))))) = some (r1, r2) := h
 clear h
 obtain ⟨y223, hy223⟩ : ∃ y_ : List (S58), y_ = (([] : List (S58))) := ⟨_, rfl⟩
 replace H : ((spec_IsFormat.f k l0).bind fun t226 => (if t226 = true then (spec_ReadPrefix.l0 k l0 l1 y223 0 0) else (some (y223, (-1))))) = some (r1, r2) := by first | (rw [hy223]; with_reducible exact H) | (have H2_ := (Option.bind_some _ _).symm.trans H; rw [hy223]; with_reducible exact H2_) | (have H2_ := (Option.bind_some _ _).symm.trans H; with_reducible exact H2_) | with_reducible exact H | (rw [hy223]; exact H) | exact H
 have Ny223 := Aside0.mk hy223
 clear hy223
 obtain ⟨t226, A3, H⟩ := bindS H
 by_cases c4 : t226 = true
 ·subst c4
  have H1 : (spec_ReadPrefix.l0 k l0 l1 y223 0 0) = some (r1, r2) := by rw [if_pos rfl] at H; exact H
  clear H
  have H := H1
  clear H1
  have H' := Aside0.mk H
  clear H
  go_enter Try.func24, Try.ntmps24
  go_wp2_with (first | ((with_reducible refine gate_dst (N := 11) rfl ?_); refine Kd.S_lit k58 _ 58 ?hg (N := 11) ?hd (xs := ([] : List (S58))) (inner := []) (ok := fun _ => True) (okp := fun _ => True) ?hr ?hp (fun _ hk => hk) trivial (Below.refl _ _) (Nat.le_refl _) (by simp) ?_; (case hd => rfl); (case hg => rfl); (case hr => first | (go_simp; done) | (go_simp; rfl)); (case hp => exact (Reps.none _ _)); intro v224 w5 ho6 hb hg_ hnew_; clear hg_ hnew_; (first | rw [← Ny223.out] at ho6 | (simp only [Int.reduceToNat] at ho6; rw [← Ny223.out] at ho6)); have HO225 := Aside0.mk (Kd.S_lower ho6 (below_size (zB HB))); replace HB := bS HB hb; clear hb ho6) | ((with_reducible refine gate_callee (f := 31) rfl ?_); refine goesL_ (some 13) rfl rfl Try.func31 (by kernel_rfl) rfl #[.slice A0 l0.length c0] rfl zG ?_; (with_reducible refine (spec_IsFormat.calls k _ _ l0 true _ ?side1 ?side2 A3.out).mono ?_); (case side1 => exact cS HR0 HB); (case side2 => exact HC0.out); rintro e w7 ⟨rfl, hb⟩; refine ⟨_, rfl, ?_⟩; replace HO225 := Aside0.mk (Kd.S_below (zS HO225) hb); replace HB := bS HB hb; (try clear hb)))
  go_loopg [6, 7, 8] k (fun kq v6 v7 v8 w' => ∃ (x6_1 : List (S58)) (x7_1 : Int) (x8_1 : Int), v7 = .int .i64 x7_1 ∧ v8 = .int .i64 x8_1 ∧ Aside0 (spec_ReadPrefix.l0 kq l0 l1 x6_1 x7_1 x8_1 = some (r1, r2)) ∧ Aside0 (kq ≤ k) ∧ Aside0 (Kd.S k58 58 w' w.heap.size (fun _ => True) v6 x6_1) ∧ Aside0 (Below w.heap.size w w'))
  case atStart => exact ⟨(y223), (0), (0), zF, zF, H', ⟨Nat.le_refl _⟩, ⟨zS HO225⟩, ⟨zB HB⟩⟩
  case round =>
   clear H'
   try clear c1
   try clear c2
   try clear p2
   try clear c3
   try clear c4
   obtain ⟨x6_1, x7_1, x8_1, rfl, rfl, HA, HK1, HO_6, HB⟩ := hrel
   cases gk with
   | zero => exact absurd HA.out (by simp [spec_ReadPrefix.l0])
   | succ k1 =>
    have H := HA.out
    clear HA
    simp only [spec_ReadPrefix.l0] at H
    by_cases c8 : x8_1 < (l0.length : Int)
    ·rw [if_pos c8] at H
     have c8b0 : decide (x8_1 < (l0.length : Int)) = true := decide_eq_true c8
     clear c8
     obtain ⟨t227, A9, H⟩ := bindS H
     by_cases c10 : t227 = true
     ·subst c10
      have H1 : (if 0 ≤ x8_1 then ((spec_l6Read.f k1 ((rd_T47 l0 x8_1).f0) ((rd_T47 l0 x8_1).f1) ((rd_T47 l0 x8_1).f2) ((rd_T47 l0 x8_1).f3) l1 x7_1).bind fun bt229 => (if bt229.2.2 < 0 then (some ((([] : List (S58))), (-1))) else (if x6_1.length < 4398046511104 then (spec_ReadPrefix.l0 k1 l0 l1 (x6_1 ++ [(⟨bt229.1, bt229.2.1⟩ : S58)]) bt229.2.2 (wrap64 (x8_1 + 1))) else (none)))) else (none)) = some (r1, r2) := by rw [if_pos rfl] at H; exact H
      clear H
      have H := H1
      clear H1
      obtain ⟨c11, H⟩ := ifS H
      have c11b0 : decide (0 ≤ x8_1) = true := decide_eq_true c11
      clear c11
      replace H := Option.bind_eq_some_iff.mp H
      obtain ⟨⟨t229, t230, t233⟩, A120, H⟩ := H
      replace H : (if t233 < 0 then (some ((([] : List (S58))), (-1))) else (if x6_1.length < 4398046511104 then (spec_ReadPrefix.l0 k1 l0 l1 (x6_1 ++ [(⟨t229, t230⟩ : S58)]) t233 (wrap64 (x8_1 + 1))) else (none))) = some (r1, r2) := H
      have A12 := Aside0.mk A120
      clear A120
      by_cases c13 : t233 < 0
      ·rw [if_pos c13] at H
       have c13b0 : decide (t233 < 0) = true := decide_eq_true c13
       clear c13
       obtain ⟨y235, hy235⟩ : ∃ y_ : List (S58), y_ = (([] : List (S58))) := ⟨_, rfl⟩
       replace H : (some (y235, (-1))) = some (r1, r2) := by first | (rw [hy235]; with_reducible exact H) | (have H2_ := (Option.bind_some _ _).symm.trans H; rw [hy235]; with_reducible exact H2_) | (have H2_ := (Option.bind_some _ _).symm.trans H; with_reducible exact H2_) | with_reducible exact H | (rw [hy235]; exact H) | exact H
       have Ny235 := Aside0.mk hy235
       clear hy235
       simp only [Option.some.injEq, Prod.mk.injEq] at H
       obtain ⟨rfl, rfl⟩ := H
       obtain ⟨Ao14, co14, eo14⟩ := Kd.S_slice HO_6.out
       subst eo14
       go_wp2_with (first | ((with_reducible refine gate_callee (f := 43) rfl ?_); refine goesL_ (some 25) rfl rfl Try.func43 (by kernel_rfl) rfl #[.slice A0 l0.length c0, .slice Ao14 x6_1.length co14, .int .i64 x8_1] rfl zG ?_; (with_reducible refine (spec_IsThere.calls _ _ l0 _ _ x6_1 x8_1 true _ ?side1 ?side2 ?side3 ?side4 A9.out).mono ?_); (case side1 => exact cS HR0 HB); (case side2 => exact HC0.out); (case side3 => repeat (first | exact (Kd.S_reads' HO_6.out).2.2 | (with_reducible refine Kd.C_alloc ?_ _) | (with_reducible refine Kd.C_drewN ?_ _) | (with_reducible refine Kd.C_drew ?_))); (case side4 => exact (Kd.S_reads' HO_6.out).2.1); rintro e w15 ⟨rfl, hb⟩; refine ⟨_, rfl, ?_⟩; replace HO_6 := Aside0.mk (Kd.S_below (zS HO_6) hb); replace HB := bS HB hb; (try clear hb); have p228 : 0 ≤ (x8_1 : Int) := zD; have q228 : x8_1 < (l0.length : Int) := zD; obtain ⟨ad228, e228, hx228_0, hx228_1, hx228_2, hx228_3⟩ := at_T47 HR0.out x8_1 p228 q228; cases e228; replace hx228_0 := hL HB hx228_0; replace hx228_1 := hL HB hx228_1; replace hx228_2 := hL HB hx228_2; replace hx228_3 := hL HB hx228_3; replace p228 := eq_true p228; replace q228 := eq_true q228) | ((with_reducible refine gate_callee (f := 44) rfl ?_); refine goesL_ (some 38) rfl rfl Try.func44 (by kernel_rfl) rfl #[.agg #[.int .i64 ((rd_T47 l0 x8_1).f0), .int .i64 ((rd_T47 l0 x8_1).f1), .int .i64 ((rd_T47 l0 x8_1).f2), .int .i64 ((rd_T47 l0 x8_1).f3)], .slice A1 l1.length c1, .int .i64 x7_1] rfl zG ?_; (with_reducible refine (spec_l6Read.calls k1 ((rd_T47 l0 x8_1).f0) ((rd_T47 l0 x8_1).f1) ((rd_T47 l0 x8_1).f2) ((rd_T47 l0 x8_1).f3) _ _ l1 x7_1 t229 t230 t233 _ ?side1 ?side2 A12.out).mono ?_); (case side1 => exact cS HR1 HB); (case side2 => exact HC1.out); rintro e w16 ⟨v231, rfl, ho0, hb⟩; refine ⟨_, rfl, ?_⟩; replace HO_6 := Aside0.mk (Kd.S_elder' (zS HO_6) (Kd.R_base ho0) hb); have HO232 := Aside0.mk (Kd.R_lower ho0 (below_size (zB HB))); replace HB := bS HB hb; (try clear hb); (try clear ho0)) | ((with_reducible refine gate_dst (N := 9) rfl ?_); refine box_event ?hg (N := 9) ?hd (cs := #[.int .i64 0, .slice none 0 0]) (t := 58) ?hr ?_; (case hd => rfl); (case hg => rfl); (case hr => first | (go_simp; done) | (go_simp; rfl)); intro gb234 hg w17 hbox hb; replace HO_6 := Aside0.mk (Kd.S_below (Kd.S_elderB (zS HO_6) gb234 (Nat.le_of_eq hg.symm)) hb); replace HO232 := Aside0.mk (Kd.R_below (zR HO232) hb); have BK234 := Aside0.mk (hbox); have GW234 := gS HB hg; have GE234 := gS HB hg; replace HB := bS HB hb; clear hb hbox hg; have hcz18_0 := bc0 BK234; have hcz18_1 := bc1 BK234; have hfz18_0 := bf BK234 0; have hfz18_1 := bf BK234 1; obtain ⟨Ao19, co19, eo19⟩ := Kd.R_slice HO232.out; subst eo19) | ((with_reducible refine gate_dst (N := 43) rfl ?_); refine Kd.S_lit k58 _ 58 ?hg (N := 43) ?hd (xs := ([] : List (S58))) (inner := []) (ok := fun _ => True) (okp := fun _ => True) ?hr ?hp (fun _ hk => hk) trivial (Below.refl _ _) (Nat.le_refl _) (by simp) ?_; (case hd => rfl); (case hg => rfl); (case hr => first | (go_simp; done) | (go_simp; rfl)); (case hp => exact (Reps.none _ _)); intro v236 w20 ho21 hb hg_ hnew_; clear hg_ hnew_; (first | rw [← Ny235.out] at ho21 | (simp only [Int.reduceToNat] at ho21; rw [← Ny235.out] at ho21)); have HO237 := Aside0.mk (Kd.S_lower (Kd.S_newB (Kd.S_new' (Kd.S_new' ho21 (Kd.S_lt (by (with_reducible repeat (first | apply Kd.S_alloc | apply Kd.S_drewN | apply Kd.S_drew)); exact (Kd.S_mono (Kd.S_far (p := ⟨gb234, 1, none⟩) (Kd.S_far (p := ⟨gb234, 0, none⟩) (Kd.S_mono HO_6.out (fun k_ hk => (⟨hk, hk.2⟩ : _ ∧ k_ ≠ gb234))) (fun _ hk => hk.2) (.int .i64 t229)) (fun _ hk => hk.2) (.slice Ao19 t230.length co19)) (fun _ h_ => h_.1))))) (Kd.R_lt (by (with_reducible repeat (first | apply Kd.R_alloc | apply Kd.R_drewN | apply Kd.R_drew)); exact (Kd.R_mono (Kd.R_far (p := ⟨gb234, 1, none⟩) (Kd.R_far (p := ⟨gb234, 0, none⟩) (Kd.R_types HO232.out BK234.out (by decide)) (fun _ hk => hk.2) (.int .i64 t229)) (fun _ hk => hk.2) (.slice Ao19 t230.length co19)) (fun _ h_ => h_.1))))) (g := gb234) (o := .cells #[.int .i64 t229, .slice Ao19 t230.length co19] 58 (0, 0)) (by (with_reducible repeat (first | refine blk_drewN ?_ _ | refine blk_drew ?_ | refine blk_alloc ?_ _)); refine blk_put (cs := #[.int .i64 t229, .slice none 0 0]) ?_ 1 _ rfl; (with_reducible repeat (first | refine blk_drewN ?_ _ | refine blk_drew ?_ | refine blk_alloc ?_ _)); refine blk_put (cs := #[.int .i64 0, .slice none 0 0]) ?_ 0 _ rfl; (with_reducible repeat (first | refine blk_drewN ?_ _ | refine blk_drew ?_ | refine blk_alloc ?_ _)); exact BK234.out)) (below_size (zB HB))); replace HO_6 := Aside0.mk (Kd.S_elder' (by (with_reducible repeat (first | apply Kd.S_alloc | apply Kd.S_drewN | apply Kd.S_drew)); exact (Kd.S_mono (Kd.S_far (p := ⟨gb234, 1, none⟩) (Kd.S_far (p := ⟨gb234, 0, none⟩) (Kd.S_mono HO_6.out (fun k_ hk => (⟨hk, hk.2⟩ : _ ∧ k_ ≠ gb234))) (fun _ hk => hk.2) (.int .i64 t229)) (fun _ hk => hk.2) (.slice Ao19 t230.length co19)) (fun _ h_ => h_.1))) (Kd.S_base ho21) hb); replace HO232 := Aside0.mk (Kd.R_below (by (with_reducible repeat (first | apply Kd.R_alloc | apply Kd.R_drewN | apply Kd.R_drew)); exact (Kd.R_mono (Kd.R_far (p := ⟨gb234, 1, none⟩) (Kd.R_far (p := ⟨gb234, 0, none⟩) (Kd.R_types HO232.out BK234.out (by decide)) (fun _ hk => hk.2) (.int .i64 t229)) (fun _ hk => hk.2) (.slice Ao19 t230.length co19)) (fun _ h_ => h_.1))) hb); replace BK234 := Aside0.mk (blk_below (g := gb234) (o := .cells #[.int .i64 t229, .slice Ao19 t230.length co19] 58 (0, 0)) (by (with_reducible repeat (first | refine blk_drewN ?_ _ | refine blk_drew ?_ | refine blk_alloc ?_ _)); refine blk_put (cs := #[.int .i64 t229, .slice none 0 0]) ?_ 1 _ rfl; (with_reducible repeat (first | refine blk_drewN ?_ _ | refine blk_drew ?_ | refine blk_alloc ?_ _)); refine blk_put (cs := #[.int .i64 0, .slice none 0 0]) ?_ 0 _ rfl; (with_reducible repeat (first | refine blk_drewN ?_ _ | refine blk_drew ?_ | refine blk_alloc ?_ _)); exact BK234.out) hb); replace HB := bS HB hb; clear hb ho21))
       go_ret2
       exact ⟨_, zE, by (with_reducible repeat (first | apply Kd.S_alloc | apply Kd.S_drewN | apply Kd.S_drew)); exact Kd.S_mono HO237.out (fun _ hk => trivial), zB HB⟩
      ·rw [if_neg c13] at H
       have c13b0 : decide (t233 < 0) = false := decide_eq_false c13
       clear c13
       obtain ⟨c22, H⟩ := ifS H
       have LMc22 := Aside0.mk c22
       clear c22
       obtain ⟨y238, hy238⟩ : ∃ y_ : List (S58), y_ = (x6_1 ++ [(⟨t229, t230⟩ : S58)]) := ⟨_, rfl⟩
       replace H : (spec_ReadPrefix.l0 k1 l0 l1 y238 t233 (wrap64 (x8_1 + 1))) = some (r1, r2) := by first | (rw [hy238]; with_reducible exact H) | (have H2_ := (Option.bind_some _ _).symm.trans H; rw [hy238]; with_reducible exact H2_) | (have H2_ := (Option.bind_some _ _).symm.trans H; with_reducible exact H2_) | with_reducible exact H | (rw [hy238]; exact H) | exact H
       have Ny238 := Aside0.mk hy238
       clear hy238
       have H' := Aside0.mk H
       clear H
       obtain ⟨Ao23, co23, eo23⟩ := Kd.S_slice HO_6.out
       subst eo23
       go_wp2_with (first | ((with_reducible refine gate_callee (f := 43) rfl ?_); refine goesL_ (some 25) rfl rfl Try.func43 (by kernel_rfl) rfl #[.slice A0 l0.length c0, .slice Ao23 x6_1.length co23, .int .i64 x8_1] rfl zG ?_; (with_reducible refine (spec_IsThere.calls _ _ l0 _ _ x6_1 x8_1 true _ ?side1 ?side2 ?side3 ?side4 A9.out).mono ?_); (case side1 => exact cS HR0 HB); (case side2 => exact HC0.out); (case side3 => repeat (first | exact (Kd.S_reads' HO_6.out).2.2 | (with_reducible refine Kd.C_alloc ?_ _) | (with_reducible refine Kd.C_drewN ?_ _) | (with_reducible refine Kd.C_drew ?_))); (case side4 => exact (Kd.S_reads' HO_6.out).2.1); rintro e w24 ⟨rfl, hb⟩; refine ⟨_, rfl, ?_⟩; replace HO_6 := Aside0.mk (Kd.S_below (zS HO_6) hb); replace HB := bS HB hb; (try clear hb); have p228 : 0 ≤ (x8_1 : Int) := zD; have q228 : x8_1 < (l0.length : Int) := zD; obtain ⟨ad228, e228, hx228_0, hx228_1, hx228_2, hx228_3⟩ := at_T47 HR0.out x8_1 p228 q228; cases e228; replace hx228_0 := hL HB hx228_0; replace hx228_1 := hL HB hx228_1; replace hx228_2 := hL HB hx228_2; replace hx228_3 := hL HB hx228_3; replace p228 := eq_true p228; replace q228 := eq_true q228) | ((with_reducible refine gate_callee (f := 44) rfl ?_); refine goesL_ (some 38) rfl rfl Try.func44 (by kernel_rfl) rfl #[.agg #[.int .i64 ((rd_T47 l0 x8_1).f0), .int .i64 ((rd_T47 l0 x8_1).f1), .int .i64 ((rd_T47 l0 x8_1).f2), .int .i64 ((rd_T47 l0 x8_1).f3)], .slice A1 l1.length c1, .int .i64 x7_1] rfl zG ?_; (with_reducible refine (spec_l6Read.calls k1 ((rd_T47 l0 x8_1).f0) ((rd_T47 l0 x8_1).f1) ((rd_T47 l0 x8_1).f2) ((rd_T47 l0 x8_1).f3) _ _ l1 x7_1 t229 t230 t233 _ ?side1 ?side2 A12.out).mono ?_); (case side1 => exact cS HR1 HB); (case side2 => exact HC1.out); rintro e w25 ⟨v231, rfl, ho0, hb⟩; refine ⟨_, rfl, ?_⟩; replace HO_6 := Aside0.mk (Kd.S_elder' (zS HO_6) (Kd.R_base ho0) hb); have HO232 := Aside0.mk (Kd.R_lower ho0 (below_size (zB HB))); replace HB := bS HB hb; (try clear hb); (try clear ho0)) | ((with_reducible refine gate_dst (N := 9) rfl ?_); refine box_event ?hg (N := 9) ?hd (cs := #[.int .i64 0, .slice none 0 0]) (t := 58) ?hr ?_; (case hd => rfl); (case hg => rfl); (case hr => first | (go_simp; done) | (go_simp; rfl)); intro gb234 hg w26 hbox hb; replace HO_6 := Aside0.mk (Kd.S_below (Kd.S_elderB (zS HO_6) gb234 (Nat.le_of_eq hg.symm)) hb); replace HO232 := Aside0.mk (Kd.R_below (zR HO232) hb); have BK234 := Aside0.mk (hbox); have GW234 := gS HB hg; have GE234 := gS HB hg; replace HB := bS HB hb; clear hb hbox hg; have hcz27_0 := bc0 BK234; have hcz27_1 := bc1 BK234; have hfz27_0 := bf BK234 0; have hfz27_1 := bf BK234 1; obtain ⟨Ao28, co28, eo28⟩ := Kd.R_slice HO232.out; subst eo28) | ((with_reducible refine gate_store (t := 58) (p := 9) rfl ?_); refine store_event (t := 58) (p := 9) (v := ?vo_w29) (w1 := ((w26.setCell ⟨gb234, 0, none⟩ (.int .i64 t229)).setCell ⟨gb234, 1, none⟩ (.slice Ao28 t230.length co28))) ?hg ?ho ?hn ?hr ?_; (case ho => rfl); (case hg => rfl); (case hn => rfl); (case hr => first | (go_simp; done) | (go_simp; rfl)); intro w29 hw; replace HO_6 : Aside0 (Kd.S k58 58 w29 w.heap.size (fun k_ => some k_ ≠ (.slice Ao28 t230.length co28 : Value).ownBlock ∧ k_ ≠ gb234) (.slice Ao23 x6_1.length co23) x6_1) := ⟨(by rw [hw]; exact (by (with_reducible repeat (first | apply Kd.S_alloc | apply Kd.S_drewN | apply Kd.S_drew)); exact Kd.S_mono (Kd.S_far (p := ⟨gb234, 1, none⟩) (Kd.S_far (p := ⟨gb234, 0, none⟩) (Kd.S_mono HO_6.out (fun k_ hk => (⟨hk, hk.2⟩ : _ ∧ k_ ≠ gb234))) (fun _ hk => hk.2) (.int .i64 t229)) (fun _ hk => hk.2) (.slice Ao28 t230.length co28)) (fun _ hk => ⟨hk.1.1.2, hk.1.2⟩)))⟩; replace HO232 : Aside0 (Kd.R (Kd.int .i64) 3 w29 w.heap.size (fun _ => True) (.slice Ao28 t230.length co28) t230) := ⟨(by rw [hw]; exact (by (with_reducible repeat (first | apply Kd.R_alloc | apply Kd.R_drewN | apply Kd.R_drew)); exact Kd.R_mono (Kd.R_far (p := ⟨gb234, 1, none⟩) (Kd.R_far (p := ⟨gb234, 0, none⟩) (Kd.R_types HO232.out BK234.out (by decide)) (fun _ hk => hk.2) (.int .i64 t229)) (fun _ hk => hk.2) (.slice Ao28 t230.length co28)) (fun _ hk => trivial)))⟩; replace BK234 : Aside0 (w29.heap[gb234]? = some (.cells #[.int .i64 t229, .slice Ao28 t230.length co28] 58 (0, 0))) := ⟨(by rw [hw]; exact (by (with_reducible repeat (first | refine blk_drewN ?_ _ | refine blk_drew ?_ | refine blk_alloc ?_ _)); refine blk_put (cs := #[.int .i64 t229, .slice none 0 0]) ?_ 1 _ rfl; (with_reducible repeat (first | refine blk_drewN ?_ _ | refine blk_drew ?_ | refine blk_alloc ?_ _)); refine blk_put (cs := #[.int .i64 0, .slice none 0 0]) ?_ 0 _ rfl; (with_reducible repeat (first | refine blk_drewN ?_ _ | refine blk_drew ?_ | refine blk_alloc ?_ _)); exact BK234.out))⟩; replace HB : Aside0 (Below w.heap.size w w29) := ⟨(by rw [hw]; exact (zB HB))⟩; clear hw; have hcz30_0 := bc0 BK234; have hcz30_1 := bc1 BK234; have hfz30_0 := bf BK234 0; have hfz30_1 := bf BK234 1) | ((with_reducible refine gate_builtin (b := .append) (xs := #[.tmp 44, .tmp 46]) rfl ?_); at_builtin; refine Kd.S_append k58 (w0 := w) w.heap.size rfl (.tmp 44) (.tmp 46) 39 58 (.agg #[(.int .i64 0), (.slice none 0 0)]) 32 rfl Try.underlying39 info58 rfl (by decide) (by omega) (.slice Ao23 x6_1.length co23) x6_1 (⟨t229, t230⟩ : S58) [.int .i64 t229, .slice Ao28 t230.length co28] (fun k_ => k_ ≠ gb234) (fun k_ => some k_ = (.slice Ao28 t230.length co28 : Value).ownBlock) rfl rfl ?aP (fun k_ hk_ => ((Kd.R_mono (ok' := fun k_ => ((fun k_ => k_ ≠ gb234)) k_ ∧ some k_ ≠ (.slice Ao23 x6_1.length co23 : Value).ownBlock) (Kd.R_types (Kd.R_apart' (HO232.out) (Kd.S_typed HO_6.out) (by decide)) BK234.out (by decide)) (fun k_ hk => ⟨hk.2, hk.1.2⟩))).1 k_ hk_.symm) ?aF ?aO ?aB ?aS ?aL ?_; (case aP => exact k58_mkM _ _ _ (⟨t229, t230⟩ : S58) (Kd.R_mono (Kd.R_tight rfl (Kd.R_mono (ok' := fun k_ => ((fun k_ => k_ ≠ gb234)) k_ ∧ some k_ ≠ (.slice Ao23 x6_1.length co23 : Value).ownBlock) (Kd.R_types (Kd.R_apart' (HO232.out) (Kd.S_typed HO_6.out) (by decide)) BK234.out (by decide)) (fun k_ hk => ⟨hk.2, hk.1.2⟩))) (fun _ h_ => h_))); (case aB => exact (zB HB)); (case aF => exact (fun k_ hk => Kd.freshB (g := gb234) (o := .cells #[.int .i64 t229, .slice Ao28 t230.length co28] 58 (0, 0)) (zK BK234) k_ hk)); (case aO => exact (by (with_reducible repeat (first | apply Kd.S_alloc | apply Kd.S_drewN | apply Kd.S_drew)); exact Kd.S_mono HO_6.out (fun k_ hk => ⟨hk.2, fun e_ => hk.1 e_⟩))); (case aS => exact (below_size (zB HB))); (case aL => have := LMc22.out; omega); intro v239 w31 ho hb hg hat; rw [← Ny238.out] at ho; replace BK234 := Aside0.mk (blk_grown (g := gb234) (o := .cells #[.int .i64 t229, .slice Ao28 t230.length co28] 58 (0, 0)) (zK BK234) hg (Kd.S_away HO_6.out (fun _ hk => hk.2))); replace HB := Aside0.mk (hb); have HO240 := Aside0.mk (ho); clear HO_6 HO232; clear ho hb hg hat))
       go_roundg k1
       case measure => have := HK1.out; omega
       case rel => exact ⟨(y238), (t233), (wrap64 (x8_1 + 1)), zF, zF, H', ⟨by have := HK1.out; omega⟩, ⟨by (with_reducible repeat (first | apply Kd.S_alloc | apply Kd.S_drewN | apply Kd.S_drew)); exact Kd.S_mono HO240.out (fun _ hk => trivial)⟩, ⟨zB HB⟩⟩
     ·replace c10 := Bool.eq_false_iff.mpr c10
      subst c10
      have H1 : (if x6_1.length < 4398046511104 then (spec_ReadPrefix.l0 k1 l0 l1 (x6_1 ++ [(⟨0, ([] : List Int)⟩ : S58)]) x7_1 (wrap64 (x8_1 + 1))) else (none)) = some (r1, r2) := by rw [if_neg (show ¬ (false = true) by decide)] at H; exact H
      clear H
      have H := H1
      clear H1
      obtain ⟨c32, H⟩ := ifS H
      have LMc32 := Aside0.mk c32
      clear c32
      obtain ⟨y241, hy241⟩ : ∃ y_ : List (S58), y_ = (x6_1 ++ [(⟨0, ([] : List Int)⟩ : S58)]) := ⟨_, rfl⟩
      replace H : (spec_ReadPrefix.l0 k1 l0 l1 y241 x7_1 (wrap64 (x8_1 + 1))) = some (r1, r2) := by first | (rw [hy241]; with_reducible exact H) | (have H2_ := (Option.bind_some _ _).symm.trans H; rw [hy241]; with_reducible exact H2_) | (have H2_ := (Option.bind_some _ _).symm.trans H; with_reducible exact H2_) | with_reducible exact H | (rw [hy241]; exact H) | exact H
      have Ny241 := Aside0.mk hy241
      clear hy241
      have H' := Aside0.mk H
      clear H
      obtain ⟨Ao33, co33, eo33⟩ := Kd.S_slice HO_6.out
      subst eo33
      go_wp2_with (first | ((with_reducible refine gate_callee (f := 43) rfl ?_); refine goesL_ (some 25) rfl rfl Try.func43 (by kernel_rfl) rfl #[.slice A0 l0.length c0, .slice Ao33 x6_1.length co33, .int .i64 x8_1] rfl zG ?_; (with_reducible refine (spec_IsThere.calls _ _ l0 _ _ x6_1 x8_1 false _ ?side1 ?side2 ?side3 ?side4 A9.out).mono ?_); (case side1 => exact cS HR0 HB); (case side2 => exact HC0.out); (case side3 => repeat (first | exact (Kd.S_reads' HO_6.out).2.2 | (with_reducible refine Kd.C_alloc ?_ _) | (with_reducible refine Kd.C_drewN ?_ _) | (with_reducible refine Kd.C_drew ?_))); (case side4 => exact (Kd.S_reads' HO_6.out).2.1); rintro e w34 ⟨rfl, hb⟩; refine ⟨_, rfl, ?_⟩; replace HO_6 := Aside0.mk (Kd.S_below (zS HO_6) hb); replace HB := bS HB hb; (try clear hb)) | ((with_reducible refine gate_builtin (b := .append) (xs := #[.tmp 27, .tmp 29]) rfl ?_); at_builtin; refine Kd.S_append k58 (w0 := w) w.heap.size rfl (.tmp 27) (.tmp 29) 39 58 (.agg #[(.int .i64 0), (.slice none 0 0)]) 32 rfl Try.underlying39 info58 rfl (by decide) (by omega) (.slice Ao33 x6_1.length co33) x6_1 (⟨0, ([] : List Int)⟩ : S58) [.int .i64 0, .slice none 0 0] (fun _ => True) (fun _ => False) rfl rfl ?aP (fun k_ hk_ => hk_.elim) ?aF ?aO ?aB ?aS ?aL ?_; (case aP => exact k58_mkM _ _ _ (⟨0, ([] : List Int)⟩ : S58) (Kd.R_nil _ _ _ _ _)); (case aB => exact (zB HB)); (case aF => exact (fun _ _ => trivial)); (case aO => exact (by (with_reducible repeat (first | apply Kd.S_alloc | apply Kd.S_drewN | apply Kd.S_drew)); exact Kd.S_mono HO_6.out (fun k_ hk => ⟨trivial, fun e_ => e_⟩))); (case aS => exact (below_size (zB HB))); (case aL => have := LMc32.out; omega); intro v242 w35 ho hb hg hat; rw [← Ny241.out] at ho; replace HB := Aside0.mk (hb); have HO243 := Aside0.mk (ho); clear HO_6; clear ho hb hg hat))
      go_roundg k1
      case measure => have := HK1.out; omega
      case rel => exact ⟨(y241), (x7_1), (wrap64 (x8_1 + 1)), zF, zF, H', ⟨by have := HK1.out; omega⟩, ⟨zS HO243⟩, ⟨zB HB⟩⟩
    ·rw [if_neg c8] at H
     have c8b0 : decide (x8_1 < (l0.length : Int)) = false := decide_eq_false c8
     clear c8
     simp only [Option.some.injEq, Prod.mk.injEq] at H
     obtain ⟨rfl, rfl⟩ := H
     go_wp2
     go_ret2
     exact ⟨_, zE, by (with_reducible repeat (first | apply Kd.S_alloc | apply Kd.S_drewN | apply Kd.S_drew)); exact HO_6.out, zB HB⟩
 ·replace c4 := Bool.eq_false_iff.mpr c4
  subst c4
  have H1 : (some (y223, (-1))) = some (r1, r2) := by rw [if_neg (show ¬ (false = true) by decide)] at H; exact H
  clear H
  have H := H1
  clear H1
  simp only [Option.some.injEq, Prod.mk.injEq] at H
  obtain ⟨rfl, rfl⟩ := H
  go_enter Try.func24, Try.ntmps24
  go_wp2_with (first | ((with_reducible refine gate_dst (N := 11) rfl ?_); refine Kd.S_lit k58 _ 58 ?hg (N := 11) ?hd (xs := ([] : List (S58))) (inner := []) (ok := fun _ => True) (okp := fun _ => True) ?hr ?hp (fun _ hk => hk) trivial (Below.refl _ _) (Nat.le_refl _) (by simp) ?_; (case hd => rfl); (case hg => rfl); (case hr => first | (go_simp; done) | (go_simp; rfl)); (case hp => exact (Reps.none _ _)); intro v224 w36 ho37 hb hg_ hnew_; clear hg_ hnew_; (first | rw [← Ny223.out] at ho37 | (simp only [Int.reduceToNat] at ho37; rw [← Ny223.out] at ho37)); have HO225 := Aside0.mk (Kd.S_lower ho37 (below_size (zB HB))); replace HB := bS HB hb; clear hb ho37) | ((with_reducible refine gate_callee (f := 31) rfl ?_); refine goesL_ (some 13) rfl rfl Try.func31 (by kernel_rfl) rfl #[.slice A0 l0.length c0] rfl zG ?_; (with_reducible refine (spec_IsFormat.calls k _ _ l0 false _ ?side1 ?side2 A3.out).mono ?_); (case side1 => exact cS HR0 HB); (case side2 => exact HC0.out); rintro e w38 ⟨rfl, hb⟩; refine ⟨_, rfl, ?_⟩; replace HO225 := Aside0.mk (Kd.S_below (zS HO225) hb); replace HB := bS HB hb; (try clear hb)))
  go_ret2
  exact ⟨_, zE, by (with_reducible repeat (first | apply Kd.S_alloc | apply Kd.S_drewN | apply Kd.S_drew)); exact HO225.out, zB HB⟩

/-! ### spec_DecodeMessage: function 32 -/
def spec_DecodeMessage.f (k : Nat) (l0 : List (S47)) (l1 : List Int) : Option ((List (S58)) × Bool) := (spec_ReadPrefix.f k l0 l1).bind fun bt244 => (if bt244.2 = (l1.length : Int) then (some (bt244.1, true)) else (some ((([] : List (S58))), false)))
theorem spec_DecodeMessage.mono : ∀ a0 a1 k, LeO (spec_DecodeMessage.f k a0 a1) (spec_DecodeMessage.f (k + 1) a0 a1) := by
 intro a0 a1 k
 unfold spec_DecodeMessage.f
 repeat' first
   | (with_reducible exact spec_ReadPrefix.mono _ _ _)
   | (with_reducible exact LeO.refl _)
   | (with_reducible exact LeO.none _)
   | (with_reducible refine LeO.ite ?_ ?_)
   | (with_reducible refine LeO.bind ?_ (fun _ => ?_))
   | exact spec_ReadPrefix.mono _ _ _
   | exact LeO.none _
   | refine LeO.ite ?_ ?_
   | refine LeO.bind ?_ (fun _ => ?_)
set_option maxHeartbeats 8000000 in
set_option maxRecDepth 100000 in
theorem spec_DecodeMessage.calls (k : Nat) (A0 : Option Addr) (c0 : Nat) (l0 : List (S47)) (A1 : Option Addr) (c1 : Nat) (l1 : List Int) (r1 : List (S58)) (r2 : Bool) (w : World) (hr0 : Kd.C k47 w A0 l0.length l0) (hc0 : l0.length ≤ c0) (hr1 : Kd.C (Kd.int .i64) w A1 l1.length l1) (hc1 : l1.length ≤ c1) (h : spec_DecodeMessage.f k l0 l1 = some (r1, r2)) :
  Calls Try.prog 32 #[.slice A0 l0.length c0, .slice A1 l1.length c1] w fun e w' => ∃ v0_ : Value, e = .returned (.tuple #[v0_, .bool r2]) ∧ Kd.S k58 58 w' w.heap.size (fun _ => True) v0_ r1 ∧ Below w.heap.size w w' := by
 have HR0 := Aside0.mk hr0
 have HC0 := Aside0.mk hc0
 clear hr0 hc0
 have HR1 := Aside0.mk hr1
 have HC1 := Aside0.mk hc1
 clear hr1 hc1
 have HB := Aside0.mk (Below.refl w.heap.size w)
 have H : ((spec_ReadPrefix.f k l0 l1).bind fun bt244 => (if bt244.2 = (l1.length : Int) then (some (bt244.1, true)) else (some ((([] : List (S58))), false)))) = some (r1, r2) := h
 clear h
 replace H := Option.bind_eq_some_iff.mp H
 obtain ⟨⟨t244, t245⟩, A30, H⟩ := H
 replace H : (if t245 = (l1.length : Int) then (some (t244, true)) else (some ((([] : List (S58))), false))) = some (r1, r2) := H
 have A3 := Aside0.mk A30
 clear A30
 by_cases c4 : t245 = (l1.length : Int)
 ·rw [if_pos c4] at H
  have c4b0 : (t245 == (l1.length : Int)) = true := beq_iff_eq.mpr c4
  have c4b1 : (t245 != (l1.length : Int)) = false := bne_eq_false_iff_eq.mpr c4
  clear c4
  simp only [Option.some.injEq, Prod.mk.injEq] at H
  obtain ⟨rfl, rfl⟩ := H
  go_enter Try.func32, Try.ntmps32
  go_wp2_with (first | ((with_reducible refine gate_callee (f := 24) rfl ?_); refine goesL_ (some 11) rfl rfl Try.func24 (by kernel_rfl) rfl #[.slice A0 l0.length c0, .slice A1 l1.length c1] rfl zG ?_; (with_reducible refine (spec_ReadPrefix.calls k _ _ l0 _ _ l1 t244 t245 _ ?side1 ?side2 ?side3 ?side4 A3.out).mono ?_); (case side1 => exact cT HR0); (case side2 => exact HC0.out); (case side3 => exact cT HR1); (case side4 => exact HC1.out); rintro e w5 ⟨v246, rfl, ho0, hb⟩; refine ⟨_, rfl, ?_⟩; have HO247 := Aside0.mk (Kd.S_lower ho0 (below_size (zB HB))); replace HB := bS HB hb; (try clear hb); (try clear ho0)))
  go_ret2
  exact ⟨_, zE, by (with_reducible repeat (first | apply Kd.S_alloc | apply Kd.S_drewN | apply Kd.S_drew)); exact HO247.out, zB HB⟩
 ·rw [if_neg c4] at H
  have c4b0 : (t245 == (l1.length : Int)) = false := beq_eq_false_iff_ne.mpr c4
  have c4b1 : (t245 != (l1.length : Int)) = true := bne_iff_ne.mpr c4
  obtain ⟨y248, hy248⟩ : ∃ y_ : List (S58), y_ = (([] : List (S58))) := ⟨_, rfl⟩
  replace H : (some (y248, false)) = some (r1, r2) := by first | (rw [hy248]; with_reducible exact H) | (have H2_ := (Option.bind_some _ _).symm.trans H; rw [hy248]; with_reducible exact H2_) | (have H2_ := (Option.bind_some _ _).symm.trans H; with_reducible exact H2_) | with_reducible exact H | (rw [hy248]; exact H) | exact H
  have Ny248 := Aside0.mk hy248
  clear hy248
  simp only [Option.some.injEq, Prod.mk.injEq] at H
  obtain ⟨rfl, rfl⟩ := H
  go_enter Try.func32, Try.ntmps32
  go_wp2_with (first | ((with_reducible refine gate_callee (f := 24) rfl ?_); refine goesL_ (some 11) rfl rfl Try.func24 (by kernel_rfl) rfl #[.slice A0 l0.length c0, .slice A1 l1.length c1] rfl zG ?_; (with_reducible refine (spec_ReadPrefix.calls k _ _ l0 _ _ l1 t244 t245 _ ?side1 ?side2 ?side3 ?side4 A3.out).mono ?_); (case side1 => exact cT HR0); (case side2 => exact HC0.out); (case side3 => exact cT HR1); (case side4 => exact HC1.out); rintro e w6 ⟨v246, rfl, ho0, hb⟩; refine ⟨_, rfl, ?_⟩; have HO247 := Aside0.mk (Kd.S_lower ho0 (below_size (zB HB))); replace HB := bS HB hb; (try clear hb); (try clear ho0)) | ((with_reducible refine gate_dst (N := 18) rfl ?_); refine Kd.S_lit k58 _ 58 ?hg (N := 18) ?hd (xs := ([] : List (S58))) (inner := []) (ok := fun _ => True) (okp := fun _ => True) ?hr ?hp (fun _ hk => hk) trivial (Below.refl _ _) (Nat.le_refl _) (by simp) ?_; (case hd => rfl); (case hg => rfl); (case hr => first | (go_simp; done) | (go_simp; rfl)); (case hp => exact (Reps.none _ _)); intro v249 w7 ho8 hb hg_ hnew_; clear hg_ hnew_; (first | rw [← Ny248.out] at ho8 | (simp only [Int.reduceToNat] at ho8; rw [← Ny248.out] at ho8)); have HO250 := Aside0.mk (Kd.S_lower (Kd.S_new' ho8 (Kd.S_lt (zS HO247))) (below_size (zB HB))); replace HO247 := Aside0.mk (Kd.S_elder' (zS HO247) (Kd.S_base ho8) hb); replace HB := bS HB hb; clear hb ho8))
  go_ret2
  exact ⟨_, zE, by (with_reducible repeat (first | apply Kd.S_alloc | apply Kd.S_drewN | apply Kd.S_drew)); exact Kd.S_mono HO250.out (fun _ hk => trivial), zB HB⟩

/-! ### spec_LostBy: function 11 -/
mutual
def spec_LostBy.l0 : Nat → List (S47) → List (S47) → Int → Int → Int → Option (Int)
 | 0, _, _, _, _, _ => none
 | k + 1, x0, x1, x2, x7, x8 => if x8 < x2 then (if x2 ≤ 50 then ((spec_IsFormat.f k x0).bind fun t251 => (spec_LostBy.j1 k x0 x1 x2 x7 x8 t251)) else (spec_LostBy.j1 k x0 x1 x2 x7 x8 false)) else (spec_LostBy.j1 k x0 x1 x2 x7 x8 false)
def spec_LostBy.j1 : Nat → List (S47) → List (S47) → Int → Int → Int → Bool → Option (Int)
 | 0, _, _, _, _, _, _ => none
 | k + 1, x0, x1, x2, x7, x8, x21 => if x21 = true then ((spec_MakeBytes.f k x0 x8).bind fun t252 => ((spec_DecodeMessage.f k x1 t252).bind fun bt255 => (if bt255.2 = true then (spec_LostBy.l0 k x0 x1 x2 x7 (wrap64 (x8 + 1))) else (spec_LostBy.l0 k x0 x1 x2 (wrap64 (x7 + 1)) (wrap64 (x8 + 1)))))) else (some x7)
end
def spec_LostBy.f (k : Nat) (l0 : List (S47)) (l1 : List (S47)) (a2 : Int) : Option (Int) := spec_LostBy.l0 k l0 l1 a2 0 0
theorem spec_LostBy.mono_l : ∀ k, (∀ y0 y1 y2 y3 y4, LeO (spec_LostBy.l0 k y0 y1 y2 y3 y4) (spec_LostBy.l0 (k + 1) y0 y1 y2 y3 y4)) ∧ (∀ y0 y1 y2 y3 y4 y5, LeO (spec_LostBy.j1 k y0 y1 y2 y3 y4 y5) (spec_LostBy.j1 (k + 1) y0 y1 y2 y3 y4 y5))
 | 0 => ⟨fun _ _ _ _ _ r h => by simp [spec_LostBy.l0] at h, fun _ _ _ _ _ _ r h => by simp [spec_LostBy.j1] at h⟩
 | k + 1 => by
  obtain ⟨ih0, ih1⟩ := spec_LostBy.mono_l k
  refine ⟨?_, ?_⟩
  ·intro y0 y1 y2 y3 y4
   unfold spec_LostBy.l0
   repeat' first
   | (with_reducible exact ih0 _ _ _ _ _)
   | (with_reducible exact ih1 _ _ _ _ _ _)
   | (with_reducible exact spec_DecodeMessage.mono _ _ _)
   | (with_reducible exact spec_IsFormat.mono _ _)
   | (with_reducible exact spec_MakeBytes.mono _ _ _)
   | (with_reducible exact LeO.refl _)
   | (with_reducible exact LeO.none _)
   | (with_reducible refine LeO.ite ?_ ?_)
   | (with_reducible refine LeO.bind ?_ (fun _ => ?_))
   | exact ih0 _ _ _ _ _
   | exact ih1 _ _ _ _ _ _
   | exact spec_DecodeMessage.mono _ _ _
   | exact spec_IsFormat.mono _ _
   | exact spec_MakeBytes.mono _ _ _
   | exact LeO.none _
   | refine LeO.ite ?_ ?_
   | refine LeO.bind ?_ (fun _ => ?_)
  ·intro y0 y1 y2 y3 y4 y5
   unfold spec_LostBy.j1
   repeat' first
   | (with_reducible exact ih0 _ _ _ _ _)
   | (with_reducible exact ih1 _ _ _ _ _ _)
   | (with_reducible exact spec_DecodeMessage.mono _ _ _)
   | (with_reducible exact spec_IsFormat.mono _ _)
   | (with_reducible exact spec_MakeBytes.mono _ _ _)
   | (with_reducible exact LeO.refl _)
   | (with_reducible exact LeO.none _)
   | (with_reducible refine LeO.ite ?_ ?_)
   | (with_reducible refine LeO.bind ?_ (fun _ => ?_))
   | exact ih0 _ _ _ _ _
   | exact ih1 _ _ _ _ _ _
   | exact spec_DecodeMessage.mono _ _ _
   | exact spec_IsFormat.mono _ _
   | exact spec_MakeBytes.mono _ _ _
   | exact LeO.none _
   | refine LeO.ite ?_ ?_
   | refine LeO.bind ?_ (fun _ => ?_)
theorem spec_LostBy.mono : ∀ a0 a1 a2 k, LeO (spec_LostBy.f k a0 a1 a2) (spec_LostBy.f (k + 1) a0 a1 a2) := by
 intro a0 a1 a2 k
 obtain ⟨ih0, ih1⟩ := spec_LostBy.mono_l k
 unfold spec_LostBy.f
 repeat' first
   | (with_reducible exact ih0 _ _ _ _ _)
   | (with_reducible exact ih1 _ _ _ _ _ _)
   | (with_reducible exact spec_DecodeMessage.mono _ _ _)
   | (with_reducible exact spec_IsFormat.mono _ _)
   | (with_reducible exact spec_MakeBytes.mono _ _ _)
   | (with_reducible exact LeO.refl _)
   | (with_reducible exact LeO.none _)
   | (with_reducible refine LeO.ite ?_ ?_)
   | (with_reducible refine LeO.bind ?_ (fun _ => ?_))
   | exact ih0 _ _ _ _ _
   | exact ih1 _ _ _ _ _ _
   | exact spec_DecodeMessage.mono _ _ _
   | exact spec_IsFormat.mono _ _
   | exact spec_MakeBytes.mono _ _ _
   | exact LeO.none _
   | refine LeO.ite ?_ ?_
   | refine LeO.bind ?_ (fun _ => ?_)
set_option maxHeartbeats 8000000 in
set_option maxRecDepth 100000 in
theorem spec_LostBy.calls (k : Nat) (A0 : Option Addr) (c0 : Nat) (l0 : List (S47)) (A1 : Option Addr) (c1 : Nat) (l1 : List (S47)) (a2 : Int) (r : Int) (w : World) (hr0 : Kd.C k47 w A0 l0.length l0) (hc0 : l0.length ≤ c0) (hr1 : Kd.C k47 w A1 l1.length l1) (hc1 : l1.length ≤ c1) (h : spec_LostBy.f k l0 l1 a2 = some r) :
  Calls Try.prog 11 #[.slice A0 l0.length c0, .slice A1 l1.length c1, .int .i64 a2] w fun e w' => e = .returned (.int .i64 r) ∧ Below w.heap.size w w' := by
 have HR0 := Aside0.mk hr0
 have HC0 := Aside0.mk hc0
 clear hr0 hc0
 have HR1 := Aside0.mk hr1
 have HC1 := Aside0.mk hc1
 clear hr1 hc1
 have HB := Aside0.mk (Below.refl w.heap.size w)
 have H : (spec_LostBy.l0 k l0 l1 a2 0 0) = some r := h
 clear h
 have H' := Aside0.mk H
 clear H
 go_enter Try.func11, Try.ntmps11
 go_wp2
 go_loopg [7, 8] k (fun kq v7 v8 w' => ∃ (x7_1 : Int) (x8_1 : Int), v7 = .int .i64 x7_1 ∧ v8 = .int .i64 x8_1 ∧ Aside0 (spec_LostBy.l0 kq l0 l1 a2 x7_1 x8_1 = some r) ∧ Aside0 (kq ≤ k) ∧ Aside0 (Below w.heap.size w w'))
 case atStart => exact ⟨(0), (0), zF, zF, H', ⟨Nat.le_refl _⟩, ⟨zB HB⟩⟩
 case round =>
  clear H'
  try clear c1
  try clear p2
  obtain ⟨x7_1, x8_1, rfl, rfl, HA, HK1, HB⟩ := hrel
  cases gk with
  | zero => exact absurd HA.out (by simp [spec_LostBy.l0])
  | succ k1 =>
   have H := HA.out
   clear HA
   simp only [spec_LostBy.l0] at H
   have HC4 := Aside0.mk H
   clear H
   go_upto_region 3 with (fail)
   go_cut [21] (fun v21 wc => ∃ (kq : Nat) (x21_3 : Bool), v21 = .bool x21_3 ∧ Aside0 (spec_LostBy.j1 kq l0 l1 a2 x7_1 x8_1 x21_3 = some r) ∧ Aside0 (kq ≤ k1) ∧ Aside0 (Below w.heap.size w wc))
   case first =>
    have H := HC4.out
    clear HC4
    by_cases c5 : x8_1 < a2
    ·rw [if_pos c5] at H
     have c5b0 : decide (x8_1 < a2) = true := decide_eq_true c5
     clear c5
     (first | rw [c5b0] | (simp only [i64_w, i32_w]; rw [c5b0]) | skip)
     by_cases c6 : a2 ≤ 50
     ·rw [if_pos c6] at H
      have c6b0 : decide (a2 ≤ 50) = true := decide_eq_true c6
      clear c6
      obtain ⟨t251, A7, H⟩ := bindS H
      have H' := Aside0.mk H
      clear H
      go_wp2_with (first | (go_at_call 31; (with_reducible refine (spec_IsFormat.calls k1 _ _ l0 t251 _ ?side1 ?side2 A7.out).mono ?_); (case side1 => exact cS HR0 HB); (case side2 => exact HC0.out); rintro e w8 ⟨rfl, hb⟩; replace HB := bS HB hb; (try clear hb)))
      go_meet
      case rel => exact ⟨_, (t251), zF, H', ⟨by have := HK1.out; first | omega | exact Nat.le_refl _⟩, ⟨zB HB⟩⟩
     ·rw [if_neg c6] at H
      have c6b0 : decide (a2 ≤ 50) = false := decide_eq_false c6
      clear c6
      have H' := Aside0.mk H
      clear H
      go_wp2
      go_meet
      case rel => exact ⟨_, (false), zF, H', ⟨by have := HK1.out; first | omega | exact Nat.le_refl _⟩, ⟨zB HB⟩⟩
    ·rw [if_neg c5] at H
     have c5b0 : decide (x8_1 < a2) = false := decide_eq_false c5
     clear c5
     (first | rw [c5b0] | (simp only [i64_w, i32_w]; rw [c5b0]) | skip)
     have H' := Aside0.mk H
     clear H
     go_wp2
     go_meet
     case rel => exact ⟨_, (false), zF, H', ⟨by have := HK1.out; first | omega | exact Nat.le_refl _⟩, ⟨zB HB⟩⟩
   case rest =>
    clear HC4
    try clear c1
    try clear p2
    try clear c5
    try clear c5b0
    try clear c6
    try clear c6b0
    try clear p2
    obtain ⟨kq, x21_3, rfl, HA, HJ3, HB⟩ := hcut
    cases kq with
    | zero => exact absurd HA.out (by simp [spec_LostBy.j1])
    | succ kj3 =>
     have H := HA.out
     clear HA
     simp only [spec_LostBy.j1] at H
     by_cases c9 : x21_3 = true
     ·subst c9
      have H1 : ((spec_MakeBytes.f kj3 l0 x8_1).bind fun t252 => ((spec_DecodeMessage.f kj3 l1 t252).bind fun bt255 => (if bt255.2 = true then (spec_LostBy.l0 kj3 l0 l1 a2 x7_1 (wrap64 (x8_1 + 1))) else (spec_LostBy.l0 kj3 l0 l1 a2 (wrap64 (x7_1 + 1)) (wrap64 (x8_1 + 1)))))) = some r := by rw [if_pos rfl] at H; exact H
      clear H
      have H := H1
      clear H1
      obtain ⟨t252, A10, H⟩ := bindS H
      replace H := Option.bind_eq_some_iff.mp H
      obtain ⟨⟨t255, t256⟩, A110, H⟩ := H
      replace H : (if t256 = true then (spec_LostBy.l0 kj3 l0 l1 a2 x7_1 (wrap64 (x8_1 + 1))) else (spec_LostBy.l0 kj3 l0 l1 a2 (wrap64 (x7_1 + 1)) (wrap64 (x8_1 + 1)))) = some r := H
      have A11 := Aside0.mk A110
      clear A110
      by_cases c12 : t256 = true
      ·subst c12
       have H1 : (spec_LostBy.l0 kj3 l0 l1 a2 x7_1 (wrap64 (x8_1 + 1))) = some r := by rw [if_pos rfl] at H; exact H
       clear H
       have H := H1
       clear H1
       have H' := Aside0.mk H
       clear H
       go_wp2_with (first | ((with_reducible refine gate_callee (f := 25) rfl ?_); refine goesL_ (some 28) rfl rfl Try.func25 (by kernel_rfl) rfl #[.slice A0 l0.length c0, .int .i64 x8_1] rfl zG ?_; (with_reducible refine (spec_MakeBytes.calls kj3 _ _ l0 x8_1 t252 _ ?side1 ?side2 A10.out).mono ?_); (case side1 => exact cS HR0 HB); (case side2 => exact HC0.out); rintro e w13 ⟨v253, rfl, ho0, hb⟩; refine ⟨_, rfl, ?_⟩; have HO254 := Aside0.mk (Kd.R_lower ho0 (below_size (zB HB))); replace HB := bS HB hb; (try clear hb); (try clear ho0); obtain ⟨Ao14, co14, eo14⟩ := Kd.R_slice HO254.out; subst eo14) | ((with_reducible refine gate_callee (f := 32) rfl ?_); refine goesL_ (some 29) rfl rfl Try.func32 (by kernel_rfl) rfl #[.slice A1 l1.length c1, .slice Ao14 t252.length co14] rfl zG ?_; (with_reducible refine (spec_DecodeMessage.calls kj3 _ _ l1 _ _ t252 t255 true _ ?side1 ?side2 ?side3 ?side4 A11.out).mono ?_); (case side1 => exact cS HR1 HB); (case side2 => exact HC1.out); (case side3 => repeat (first | exact (Kd.R_reads' HO254.out).2.2 | (with_reducible refine Kd.C_alloc ?_ _) | (with_reducible refine Kd.C_drewN ?_ _) | (with_reducible refine Kd.C_drew ?_))); (case side4 => exact (Kd.R_reads' HO254.out).2.1); rintro e w15 ⟨v257, rfl, ho0, hb⟩; refine ⟨_, rfl, ?_⟩; have HO258 := Aside0.mk (Kd.S_lower (Kd.S_new' ho0 (Kd.R_lt (zR HO254))) (below_size (zB HB))); replace HO254 := Aside0.mk (Kd.R_below (zR HO254) hb); replace HB := bS HB hb; (try clear hb); (try clear ho0)))
       go_roundg kj3
       case measure => have := HK1.out; have := HJ3.out; omega
       case rel => exact ⟨(x7_1), (wrap64 (x8_1 + 1)), zF, zF, H', ⟨by have := HK1.out; have := HJ3.out; omega⟩, ⟨zB HB⟩⟩
      ·replace c12 := Bool.eq_false_iff.mpr c12
       subst c12
       have H1 : (spec_LostBy.l0 kj3 l0 l1 a2 (wrap64 (x7_1 + 1)) (wrap64 (x8_1 + 1))) = some r := by rw [if_neg (show ¬ (false = true) by decide)] at H; exact H
       clear H
       have H := H1
       clear H1
       have H' := Aside0.mk H
       clear H
       go_wp2_with (first | ((with_reducible refine gate_callee (f := 25) rfl ?_); refine goesL_ (some 28) rfl rfl Try.func25 (by kernel_rfl) rfl #[.slice A0 l0.length c0, .int .i64 x8_1] rfl zG ?_; (with_reducible refine (spec_MakeBytes.calls kj3 _ _ l0 x8_1 t252 _ ?side1 ?side2 A10.out).mono ?_); (case side1 => exact cS HR0 HB); (case side2 => exact HC0.out); rintro e w16 ⟨v253, rfl, ho0, hb⟩; refine ⟨_, rfl, ?_⟩; have HO254 := Aside0.mk (Kd.R_lower ho0 (below_size (zB HB))); replace HB := bS HB hb; (try clear hb); (try clear ho0); obtain ⟨Ao17, co17, eo17⟩ := Kd.R_slice HO254.out; subst eo17) | ((with_reducible refine gate_callee (f := 32) rfl ?_); refine goesL_ (some 29) rfl rfl Try.func32 (by kernel_rfl) rfl #[.slice A1 l1.length c1, .slice Ao17 t252.length co17] rfl zG ?_; (with_reducible refine (spec_DecodeMessage.calls kj3 _ _ l1 _ _ t252 t255 false _ ?side1 ?side2 ?side3 ?side4 A11.out).mono ?_); (case side1 => exact cS HR1 HB); (case side2 => exact HC1.out); (case side3 => repeat (first | exact (Kd.R_reads' HO254.out).2.2 | (with_reducible refine Kd.C_alloc ?_ _) | (with_reducible refine Kd.C_drewN ?_ _) | (with_reducible refine Kd.C_drew ?_))); (case side4 => exact (Kd.R_reads' HO254.out).2.1); rintro e w18 ⟨v257, rfl, ho0, hb⟩; refine ⟨_, rfl, ?_⟩; have HO258 := Aside0.mk (Kd.S_lower (Kd.S_new' ho0 (Kd.R_lt (zR HO254))) (below_size (zB HB))); replace HO254 := Aside0.mk (Kd.R_below (zR HO254) hb); replace HB := bS HB hb; (try clear hb); (try clear ho0)))
       go_roundg kj3
       case measure => have := HK1.out; have := HJ3.out; omega
       case rel => exact ⟨(wrap64 (x7_1 + 1)), (wrap64 (x8_1 + 1)), zF, zF, H', ⟨by have := HK1.out; have := HJ3.out; omega⟩, ⟨zB HB⟩⟩
     ·replace c9 := Bool.eq_false_iff.mpr c9
      subst c9
      have H1 : (some x7_1) = some r := by rw [if_neg (show ¬ (false = true) by decide)] at H; exact H
      clear H
      have H := H1
      clear H1
      obtain rfl := Option.some.inj H
      go_wp2
      go_ret
      exact ⟨zE, zB HB⟩

/-! ### impl_InRange: function 33 -/
def impl_InRange.f (a0 : Int) (a1 : Int) (a2 : Int) : Option (Bool) := if a1 ≤ a0 then (some (decide (a0 ≤ a2))) else (some false)
set_option maxHeartbeats 8000000 in
set_option maxRecDepth 100000 in
theorem impl_InRange.calls (a0 : Int) (a1 : Int) (a2 : Int) (r : Bool) (w : World) (h : impl_InRange.f a0 a1 a2 = some r) :
  Calls Try.prog 33 #[.int .i64 a0, .int .i64 a1, .int .i64 a2] w fun e w' => e = .returned (.bool r) ∧ Drawn0 w w' := by
 have H : (if a1 ≤ a0 then (some (decide (a0 ≤ a2))) else (some false)) = some r := h
 clear h
 by_cases c4 : a1 ≤ a0
 ·rw [if_pos c4] at H
  have c4b0 : decide (a1 ≤ a0) = true := decide_eq_true c4
  clear c4
  obtain rfl := Option.some.inj H
  go_enter Try.func33, Try.ntmps33
  go_wp2
  go_ret
  exact ⟨by first | rfl | (simp; done) | (simp [*]; done), by repeat (first | exact Drawn0.refl _ | apply Drawn0.step)⟩
 ·rw [if_neg c4] at H
  have c4b0 : decide (a1 ≤ a0) = false := decide_eq_false c4
  clear c4
  obtain rfl := Option.some.inj H
  go_enter Try.func33, Try.ntmps33
  go_wp2
  go_ret
  exact ⟨by first | rfl | (simp; done) | (simp [*]; done), by repeat (first | exact Drawn0.refl _ | apply Drawn0.step)⟩

end Go.Proofs.Yticpmgofegaaeaa.PFnExactLostBy
