-- WRITTEN by pp.py, this session's own wrapper around the print; not trusted: Lean checks it
import Derived.Test.YticpmgofegaaeaaPFnExactSkipsTailx0
import Derived.Test.YticpmgofegaaeaaPFnExactSkipsTailx3
import Derived.Test.YticpmgofegaaeaaPFnExactSkipsTailx4
import Derived.Test.YticpmgofegaaeaaPFnExactSkipsTailx5
import Derived.Test.YticpmgofegaaeaaPFnExactSkipsTailx6
namespace Go.Proofs.Yticpmgofegaaeaa.PFnExactSkipsTail
open Go.RowKit Go.Proofs.Yticpmgofegaaeaa.Hw Go.Proofs.YticpmgofegaaeaaW.PrintWords Go.Proofs.YticpmgofegaaeaaW.PrintLast Go.Proofs.YticpmgofegaaeaaW.PrintMore
attribute [local go_sem] max2_int min2_int max_two min_two max_three min_three max_four min_four   -- for this text's walks alone
set_option linter.unusedVariables false
set_option linter.unusedSimpArgs false
set_option linter.unusedSectionVars false

/-! ### spec_EncodeMessage: function 45 -/
def spec_EncodeMessage.l0 : Nat → List (S47) → List (S58) → List Int → Int → Option (List Int × Bool)
 | 0, _, _, _, _ => none
 | k + 1, x0, x1, x6, x7 => if x7 < (x0.length : Int) then ((spec_IsThere.f x0 x1 x7).bind fun t206 => (if t206 = true then (if 0 ≤ x7 then (if ((rd_T47 x0 x7).f0) = 1 then (if x7 < (x1.length : Int) then (if x6.length < 17592186044416 then (spec_EncodeMessage.l0 k x0 x1 (x6 ++ [(rd_T58 x1 x7).f0]) (wrap64 (x7 + 1))) else (none)) else (none)) else (if x7 < (x1.length : Int) then (if x6.length < 17592186044416 then ((some (x6 ++ [(((rd_T58 x1 x7).f1).length : Int)] : List Int)).bind fun y213 => (if y213.length + ((rd_T58 x1 x7).f1).length < 17592186044416 then (spec_EncodeMessage.l0 k x0 x1 (y213 ++ ((rd_T58 x1 x7).f1)) (wrap64 (x7 + 1))) else (none))) else (none)) else (none))) else (none)) else (spec_EncodeMessage.l0 k x0 x1 x6 (wrap64 (x7 + 1))))) else (some (x6, true))
def spec_EncodeMessage.f (k : Nat) (l0 : List (S47)) (l1 : List (S58)) : Option (List Int × Bool) := (some (([] : List Int) : List Int)).bind fun y202 => ((spec_FitsFormat.f k l0 l1).bind fun t205 => (if t205 = true then (spec_EncodeMessage.l0 k l0 l1 y202 0) else (some (y202, false))))
theorem spec_EncodeMessage.mono_l : ∀ k, (∀ y0 y1 y2 y3, LeO (spec_EncodeMessage.l0 k y0 y1 y2 y3) (spec_EncodeMessage.l0 (k + 1) y0 y1 y2 y3))
 | 0 => fun _ _ _ _ r h => by simp [spec_EncodeMessage.l0] at h
 | k + 1 => by
  have ih0 := spec_EncodeMessage.mono_l k
  ·intro y0 y1 y2 y3
   unfold spec_EncodeMessage.l0
   repeat' first
   | (with_reducible exact ih0 _ _ _ _)
   | (with_reducible exact spec_FitsFormat.mono _ _ _)
   | (with_reducible exact LeO.refl _)
   | (with_reducible exact LeO.none _)
   | (with_reducible refine LeO.ite ?_ ?_)
   | (with_reducible refine LeO.bind ?_ (fun _ => ?_))
   | exact ih0 _ _ _ _
   | exact spec_FitsFormat.mono _ _ _
   | exact LeO.none _
   | refine LeO.ite ?_ ?_
   | refine LeO.bind ?_ (fun _ => ?_)
theorem spec_EncodeMessage.mono : ∀ a0 a1 k, LeO (spec_EncodeMessage.f k a0 a1) (spec_EncodeMessage.f (k + 1) a0 a1) := by
 intro a0 a1 k
 have ih0 := spec_EncodeMessage.mono_l k
 unfold spec_EncodeMessage.f
 repeat' first
   | (with_reducible exact ih0 _ _ _ _)
   | (with_reducible exact spec_FitsFormat.mono _ _ _)
   | (with_reducible exact LeO.refl _)
   | (with_reducible exact LeO.none _)
   | (with_reducible refine LeO.ite ?_ ?_)
   | (with_reducible refine LeO.bind ?_ (fun _ => ?_))
   | exact ih0 _ _ _ _
   | exact spec_FitsFormat.mono _ _ _
   | exact LeO.none _
   | refine LeO.ite ?_ ?_
   | refine LeO.bind ?_ (fun _ => ?_)
set_option maxHeartbeats 8000000 in
set_option maxRecDepth 100000 in
theorem spec_EncodeMessage.calls (k : Nat) (A0 : Option Addr) (c0 : Nat) (l0 : List (S47)) (A1 : Option Addr) (c1 : Nat) (l1 : List (S58)) (r1 : List Int) (r2 : Bool) (w : World) (hr0 : Kd.C k47 w A0 l0.length l0) (hc0 : l0.length ≤ c0) (hr1 : Kd.C k58 w A1 l1.length l1) (hc1 : l1.length ≤ c1) (h : spec_EncodeMessage.f k l0 l1 = some (r1, r2)) :
  Calls Try.prog 45 #[.slice A0 l0.length c0, .slice A1 l1.length c1] w fun e w' => ∃ v0_ : Value, e = .returned (.tuple #[v0_, .bool r2]) ∧ Kd.R (Kd.int .i64) 3 w' w.heap.size (fun _ => True) v0_ r1 ∧ Below w.heap.size w w' := by
 have HR0 := Aside0.mk hr0
 have HC0 := Aside0.mk hc0
 clear hr0 hc0
 have HR1 := Aside0.mk hr1
 have HC1 := Aside0.mk hc1
 clear hr1 hc1
 have HB := Aside0.mk (Below.refl w.heap.size w)
 have H : ((some (([] : List Int) : List Int)).bind fun y202 => ((spec_FitsFormat.f k l0 l1).bind fun t205 => (if t205 = true then (spec_EncodeMessage.l0 k l0 l1 y202 0) else (some (y202, false))))) = some (r1, r2) := h
 clear h
 obtain ⟨y202, hy202⟩ : ∃ y_ : List Int, y_ = (([] : List Int)) := ⟨_, rfl⟩
 replace H : ((spec_FitsFormat.f k l0 l1).bind fun t205 => (if t205 = true then (spec_EncodeMessage.l0 k l0 l1 y202 0) else (some (y202, false)))) = some (r1, r2) := by first | (rw [hy202]; with_reducible exact H) | (have H2_ := (Option.bind_some _ _).symm.trans H; rw [hy202]; with_reducible exact H2_) | (have H2_ := (Option.bind_some _ _).symm.trans H; with_reducible exact H2_) | with_reducible exact H | (rw [hy202]; exact H) | exact H
 have Ny202 := Aside0.mk hy202
 clear hy202
 obtain ⟨t205, A3, H⟩ := bindS H
 by_cases c4 : t205 = true
 ·subst c4
  have H1 : (spec_EncodeMessage.l0 k l0 l1 y202 0) = some (r1, r2) := by rw [if_pos rfl] at H; exact H
  clear H
  have H := H1
  clear H1
  have H' := Aside0.mk H
  clear H
  go_enter Try.func45, Try.ntmps45
  go_wp2_with (first | ((with_reducible refine gate_dst (N := 8) rfl ?_); refine Kd.R_lit (Kd.int .i64) _ 3 ?hg (N := 8) ?hd (xs := ([] : List Int)) (inner := []) (ok := fun _ => True) (okp := fun _ => True) ?hr ?hp (fun _ hk => hk) trivial (Below.refl _ _) (Nat.le_refl _) (by simp) ?_; (case hd => rfl); (case hg => rfl); (case hr => first | (go_simp; done) | (go_simp; rfl)); (case hp => exact (Reps.none _ _)); intro v203 w5 ho6 hb hg_ hnew_; clear hg_ hnew_; (first | rw [← Ny202.out] at ho6 | (simp only [Int.reduceToNat] at ho6; rw [← Ny202.out] at ho6)); have HO204 := Aside0.mk (Kd.R_lower ho6 (below_size (zB HB))); replace HB := bS HB hb; clear hb ho6) | ((with_reducible refine gate_callee (f := 59) rfl ?_); refine goesL_ (some 11) rfl rfl Try.func59 (by kernel_rfl) rfl #[.slice A0 l0.length c0, .slice A1 l1.length c1] rfl zG ?_; (with_reducible refine (spec_FitsFormat.calls k _ _ l0 _ _ l1 true _ ?side1 ?side2 ?side3 ?side4 A3.out).mono ?_); (case side1 => exact cS HR0 HB); (case side2 => exact HC0.out); (case side3 => exact cS HR1 HB); (case side4 => exact HC1.out); rintro e w7 ⟨rfl, hb⟩; refine ⟨_, rfl, ?_⟩; replace HO204 := Aside0.mk (Kd.R_below (zR HO204) hb); replace HB := bS HB hb; (try clear hb)))
  go_loopg [6, 7] k (fun kq v6 v7 w' => ∃ (x6_1 : List Int) (x7_1 : Int), v7 = .int .i64 x7_1 ∧ Aside0 (spec_EncodeMessage.l0 kq l0 l1 x6_1 x7_1 = some (r1, r2)) ∧ Aside0 (kq ≤ k) ∧ Aside0 (Kd.R (Kd.int .i64) 3 w' w.heap.size (fun _ => True) v6 x6_1) ∧ Aside0 (Below w.heap.size w w'))
  case atStart => exact ⟨(y202), (0), zF, H', ⟨Nat.le_refl _⟩, ⟨zR HO204⟩, ⟨zB HB⟩⟩
  case round =>
   clear H'
   try clear c1
   try clear p2
   try clear c4
   try clear c5
   obtain ⟨x6_1, x7_1, rfl, HA, HK1, HO_6, HB⟩ := hrel
   cases gk with
   | zero => exact absurd HA.out (by simp [spec_EncodeMessage.l0])
   | succ k1 =>
    have H := HA.out
    clear HA
    simp only [spec_EncodeMessage.l0] at H
    by_cases c8 : x7_1 < (l0.length : Int)
    ·rw [if_pos c8] at H
     have c8b0 : decide (x7_1 < (l0.length : Int)) = true := decide_eq_true c8
     clear c8
     obtain ⟨t206, A9, H⟩ := bindS H
     by_cases c10 : t206 = true
     ·subst c10
      have H1 : (if 0 ≤ x7_1 then (if ((rd_T47 l0 x7_1).f0) = 1 then (if x7_1 < (l1.length : Int) then (if x6_1.length < 17592186044416 then (spec_EncodeMessage.l0 k1 l0 l1 (x6_1 ++ [(rd_T58 l1 x7_1).f0]) (wrap64 (x7_1 + 1))) else (none)) else (none)) else (if x7_1 < (l1.length : Int) then (if x6_1.length < 17592186044416 then ((some (x6_1 ++ [(((rd_T58 l1 x7_1).f1).length : Int)] : List Int)).bind fun y213 => (if y213.length + ((rd_T58 l1 x7_1).f1).length < 17592186044416 then (spec_EncodeMessage.l0 k1 l0 l1 (y213 ++ ((rd_T58 l1 x7_1).f1)) (wrap64 (x7_1 + 1))) else (none))) else (none)) else (none))) else (none)) = some (r1, r2) := by rw [if_pos rfl] at H; exact H
      clear H
      have H := H1
      clear H1
      obtain ⟨c11, H⟩ := ifS H
      have c11b0 : decide (0 ≤ x7_1) = true := decide_eq_true c11
      clear c11
      by_cases c12 : ((rd_T47 l0 x7_1).f0) = 1
      ·rw [if_pos c12] at H
       have c12b0 : (((rd_T47 l0 x7_1).f0) == 1) = true := beq_iff_eq.mpr c12
       have c12b1 : (((rd_T47 l0 x7_1).f0) != 1) = false := bne_eq_false_iff_eq.mpr c12
       clear c12
       obtain ⟨c13, H⟩ := ifS H
       have c13b0 : decide (x7_1 < (l1.length : Int)) = true := decide_eq_true c13
       clear c13
       obtain ⟨c14, H⟩ := ifS H
       have LMc14 := Aside0.mk c14
       clear c14
       obtain ⟨y209, hy209⟩ : ∃ y_ : List Int, y_ = (x6_1 ++ [(rd_T58 l1 x7_1).f0]) := ⟨_, rfl⟩
       replace H : (spec_EncodeMessage.l0 k1 l0 l1 y209 (wrap64 (x7_1 + 1))) = some (r1, r2) := by first | (rw [hy209]; with_reducible exact H) | (have H2_ := (Option.bind_some _ _).symm.trans H; rw [hy209]; with_reducible exact H2_) | (have H2_ := (Option.bind_some _ _).symm.trans H; with_reducible exact H2_) | with_reducible exact H | (rw [hy209]; exact H) | exact H
       have Ny209 := Aside0.mk hy209
       clear hy209
       have H' := Aside0.mk H
       clear H
       go_wp2_with (first | ((with_reducible refine gate_callee (f := 43) rfl ?_); refine goesL_ (some 40) rfl rfl Try.func43 (by kernel_rfl) rfl #[.slice A0 l0.length c0, .slice A1 l1.length c1, .int .i64 x7_1] rfl zG ?_; (with_reducible refine (spec_IsThere.calls _ _ l0 _ _ l1 x7_1 true _ ?side1 ?side2 ?side3 ?side4 A9.out).mono ?_); (case side1 => exact cS HR0 HB); (case side2 => exact HC0.out); (case side3 => exact cS HR1 HB); (case side4 => exact HC1.out); rintro e w15 ⟨rfl, hb⟩; refine ⟨_, rfl, ?_⟩; replace HO_6 := Aside0.mk (Kd.R_below (zR HO_6) hb); replace HB := bS HB hb; (try clear hb); have p207 : 0 ≤ (x7_1 : Int) := zD; have q207 : x7_1 < (l0.length : Int) := zD; obtain ⟨ad207, e207, hx207_0, hx207_1, hx207_2, hx207_3⟩ := at_T47 HR0.out x7_1 p207 q207; cases e207; replace hx207_0 := hL HB hx207_0; replace hx207_1 := hL HB hx207_1; replace hx207_2 := hL HB hx207_2; replace hx207_3 := hL HB hx207_3; replace p207 := eq_true p207; replace q207 := eq_true q207; have p208 : 0 ≤ (x7_1 : Int) := zD; have q208 : x7_1 < (l1.length : Int) := zD; obtain ⟨ad208, A208_1, c208_1, e208, hx208_0, hx208_1, hl208_1, hi208_1⟩ := at_T58 HR1.out x7_1 p208 q208; cases e208; replace hx208_0 := hL HB hx208_0; replace hx208_1 := hL HB hx208_1; have HR208_1 := Aside0.mk hi208_1; have HC208_1 := Aside0.mk hl208_1; clear hi208_1 hl208_1; replace p208 := eq_true p208; replace q208 := eq_true q208) | ((with_reducible refine gate_builtin (b := .append) (xs := #[.tmp 49, .tmp 55]) rfl ?_); at_builtin; refine Kd.R_append (Kd.int .i64) (w0 := w) w.heap.size rfl (.tmp 49) (.tmp 55) 37 3 (.int .i64 0) 8 rfl Try.underlying37 info3 rfl (by decide) (by omega) u6 x6_1 ((rd_T58 l1 x7_1).f0) [.int .i64 ((rd_T58 l1 x7_1).f0)] (fun _ => True) (fun _ => False) rfl rfl ?aP (fun _ hk => hk.elim) ?aF ?aO ?aB ?aS ?aL ?_; (case aP => exact rfl); (case aB => exact (zB HB)); (case aF => exact (fun _ _ => trivial)); (case aO => exact (zR HO_6)); (case aS => exact (below_size (zB HB))); (case aL => have := LMc14.out; omega); intro v210 w16 ho hb hg hat; rw [← Ny209.out] at ho; replace HB := Aside0.mk (hb); have HO211 := Aside0.mk (ho); clear HO_6; clear ho hb hg hat))
       go_roundg k1
       case measure => have := HK1.out; omega
       case rel => exact ⟨(y209), (wrap64 (x7_1 + 1)), zF, H', ⟨by have := HK1.out; omega⟩, ⟨zR HO211⟩, ⟨zB HB⟩⟩
      ·rw [if_neg c12] at H
       have c12b0 : (((rd_T47 l0 x7_1).f0) == 1) = false := beq_eq_false_iff_ne.mpr c12
       have c12b1 : (((rd_T47 l0 x7_1).f0) != 1) = true := bne_iff_ne.mpr c12
       obtain ⟨c17, H⟩ := ifS H
       have c17b0 : decide (x7_1 < (l1.length : Int)) = true := decide_eq_true c17
       clear c17
       obtain ⟨c18, H⟩ := ifS H
       have LMc18 := Aside0.mk c18
       clear c18
       obtain ⟨y213, hy213⟩ : ∃ y_ : List Int, y_ = (x6_1 ++ [(((rd_T58 l1 x7_1).f1).length : Int)]) := ⟨_, rfl⟩
       replace H : (if y213.length + ((rd_T58 l1 x7_1).f1).length < 17592186044416 then (spec_EncodeMessage.l0 k1 l0 l1 (y213 ++ ((rd_T58 l1 x7_1).f1)) (wrap64 (x7_1 + 1))) else (none)) = some (r1, r2) := by first | (rw [hy213]; with_reducible exact H) | (have H2_ := (Option.bind_some _ _).symm.trans H; rw [hy213]; with_reducible exact H2_) | (have H2_ := (Option.bind_some _ _).symm.trans H; with_reducible exact H2_) | with_reducible exact H | (rw [hy213]; exact H) | exact H
       have Ny213 := Aside0.mk hy213
       clear hy213
       obtain ⟨c19, H⟩ := ifS H
       have LMc19 := Aside0.mk c19
       clear c19
       obtain ⟨y217, hy217⟩ : ∃ y_ : List Int, y_ = (y213 ++ ((rd_T58 l1 x7_1).f1)) := ⟨_, rfl⟩
       replace H : (spec_EncodeMessage.l0 k1 l0 l1 y217 (wrap64 (x7_1 + 1))) = some (r1, r2) := by first | (rw [hy217]; with_reducible exact H) | (have H2_ := (Option.bind_some _ _).symm.trans H; rw [hy217]; with_reducible exact H2_) | (have H2_ := (Option.bind_some _ _).symm.trans H; with_reducible exact H2_) | with_reducible exact H | (rw [hy217]; exact H) | exact H
       have Ny217 := Aside0.mk hy217
       clear hy217
       have H' := Aside0.mk H
       clear H
       go_wp2_with (first | ((with_reducible refine gate_callee (f := 43) rfl ?_); refine goesL_ (some 40) rfl rfl Try.func43 (by kernel_rfl) rfl #[.slice A0 l0.length c0, .slice A1 l1.length c1, .int .i64 x7_1] rfl zG ?_; (with_reducible refine (spec_IsThere.calls _ _ l0 _ _ l1 x7_1 true _ ?side1 ?side2 ?side3 ?side4 A9.out).mono ?_); (case side1 => exact cS HR0 HB); (case side2 => exact HC0.out); (case side3 => exact cS HR1 HB); (case side4 => exact HC1.out); rintro e w20 ⟨rfl, hb⟩; refine ⟨_, rfl, ?_⟩; replace HO_6 := Aside0.mk (Kd.R_below (zR HO_6) hb); replace HB := bS HB hb; (try clear hb); have p207 : 0 ≤ (x7_1 : Int) := zD; have q207 : x7_1 < (l0.length : Int) := zD; obtain ⟨ad207, e207, hx207_0, hx207_1, hx207_2, hx207_3⟩ := at_T47 HR0.out x7_1 p207 q207; cases e207; replace hx207_0 := hL HB hx207_0; replace hx207_1 := hL HB hx207_1; replace hx207_2 := hL HB hx207_2; replace hx207_3 := hL HB hx207_3; replace p207 := eq_true p207; replace q207 := eq_true q207; have p212 : 0 ≤ (x7_1 : Int) := zD; have q212 : x7_1 < (l1.length : Int) := zD; obtain ⟨ad212, A212_1, c212_1, e212, hx212_0, hx212_1, hl212_1, hi212_1⟩ := at_T58 HR1.out x7_1 p212 q212; cases e212; replace hx212_0 := hL HB hx212_0; replace hx212_1 := hL HB hx212_1; have HR212_1 := Aside0.mk hi212_1; have HC212_1 := Aside0.mk hl212_1; clear hi212_1 hl212_1; replace p212 := eq_true p212; replace q212 := eq_true q212) | ((with_reducible refine gate_builtin (b := .append) (xs := #[.tmp 20, .tmp 27]) rfl ?_); at_builtin; refine Kd.R_append (Kd.int .i64) (w0 := w) w.heap.size rfl (.tmp 20) (.tmp 27) 37 3 (.int .i64 0) 8 rfl Try.underlying37 info3 rfl (by decide) (by omega) u6 x6_1 (((rd_T58 l1 x7_1).f1).length : Int) [.int .i64 (((rd_T58 l1 x7_1).f1).length : Int)] (fun _ => True) (fun _ => False) rfl rfl ?aP (fun _ hk => hk.elim) ?aF ?aO ?aB ?aS ?aL ?_; (case aP => exact rfl); (case aB => exact (zB HB)); (case aF => exact (fun _ _ => trivial)); (case aO => exact (zR HO_6)); (case aS => exact (below_size (zB HB))); (case aL => have := LMc18.out; omega); intro v214 w21 ho hb hg hat; rw [← Ny213.out] at ho; replace HB := Aside0.mk (hb); have HO215 := Aside0.mk (ho); clear HO_6; clear ho hb hg hat; have p216 : 0 ≤ (x7_1 : Int) := zD; have q216 : x7_1 < (l1.length : Int) := zD; obtain ⟨ad216, A216_1, c216_1, e216, hx216_0, hx216_1, hl216_1, hi216_1⟩ := at_T58 HR1.out x7_1 p216 q216; obtain rfl : ad212 = ad216 := (by injection e216); replace hx216_0 := hL HB hx216_0; replace hx216_1 := hL HB hx216_1; have HR216_1 := Aside0.mk hi216_1; have HC216_1 := Aside0.mk hl216_1; clear hi216_1 hl216_1; replace p216 := eq_true p216; replace q216 := eq_true q216) | ((with_reducible refine gate_builtin (b := .append) (xs := #[.tmp 29, .tmp 34]) rfl ?_); at_builtin; refine Kd.R_append_rows (Kd.int .i64) (w0 := w) w.heap.size rfl (.tmp 29) (.tmp 34) 37 3 (.int .i64 0) 8 rfl Try.underlying37 info3 rfl (by decide) (by omega) v214 y213 ((rd_T58 l1 x7_1).f1) _ _ _ (fun _ => True) (fun _ => False) rfl rfl ?aO ?aR (fun _ _ h => h) (fun _ h => h.elim) ?aF ?aB ?aS ?aL ?_; (case aR => repeat (first | exact (Kd.C_below HR216_1.out HB.out) | (with_reducible refine Kd.C_alloc ?_ _) | (with_reducible refine Kd.C_drewN ?_ _) | (with_reducible refine Kd.C_drew ?_))); (case aB => exact (zB HB)); (case aF => exact (fun _ _ => trivial)); (case aO => exact (zR HO215)); (case aS => exact (below_size (zB HB))); (case aL => have := LMc19.out; omega); intro v218 w22 ho hb hg hat; rw [← Ny217.out] at ho; replace HB := Aside0.mk (hb); have HO219 := Aside0.mk (ho); clear HO215; clear ho hb hg hat))
       go_roundg k1
       case measure => have := HK1.out; omega
       case rel => exact ⟨(y217), (wrap64 (x7_1 + 1)), zF, H', ⟨by have := HK1.out; omega⟩, ⟨zR HO219⟩, ⟨zB HB⟩⟩
     ·replace c10 := Bool.eq_false_iff.mpr c10
      subst c10
      have H1 : (spec_EncodeMessage.l0 k1 l0 l1 x6_1 (wrap64 (x7_1 + 1))) = some (r1, r2) := by rw [if_neg (show ¬ (false = true) by decide)] at H; exact H
      clear H
      have H := H1
      clear H1
      have H' := Aside0.mk H
      clear H
      go_wp2_with (first | ((with_reducible refine gate_callee (f := 43) rfl ?_); refine goesL_ (some 40) rfl rfl Try.func43 (by kernel_rfl) rfl #[.slice A0 l0.length c0, .slice A1 l1.length c1, .int .i64 x7_1] rfl zG ?_; (with_reducible refine (spec_IsThere.calls _ _ l0 _ _ l1 x7_1 false _ ?side1 ?side2 ?side3 ?side4 A9.out).mono ?_); (case side1 => exact cS HR0 HB); (case side2 => exact HC0.out); (case side3 => exact cS HR1 HB); (case side4 => exact HC1.out); rintro e w23 ⟨rfl, hb⟩; refine ⟨_, rfl, ?_⟩; replace HO_6 := Aside0.mk (Kd.R_below (zR HO_6) hb); replace HB := bS HB hb; (try clear hb)))
      go_roundg k1
      case measure => have := HK1.out; omega
      case rel => exact ⟨(x6_1), (wrap64 (x7_1 + 1)), zF, H', ⟨by have := HK1.out; omega⟩, ⟨zR HO_6⟩, ⟨zB HB⟩⟩
    ·rw [if_neg c8] at H
     have c8b0 : decide (x7_1 < (l0.length : Int)) = false := decide_eq_false c8
     clear c8
     simp only [Option.some.injEq, Prod.mk.injEq] at H
     obtain ⟨rfl, rfl⟩ := H
     go_wp2
     go_ret2
     exact ⟨_, zE, by (with_reducible repeat (first | apply Kd.R_alloc | apply Kd.R_drewN | apply Kd.R_drew)); exact HO_6.out, zB HB⟩
 ·replace c4 := Bool.eq_false_iff.mpr c4
  subst c4
  have H1 : (some (y202, false)) = some (r1, r2) := by rw [if_neg (show ¬ (false = true) by decide)] at H; exact H
  clear H
  have H := H1
  clear H1
  simp only [Option.some.injEq, Prod.mk.injEq] at H
  obtain ⟨rfl, rfl⟩ := H
  go_enter Try.func45, Try.ntmps45
  go_wp2_with (first | ((with_reducible refine gate_dst (N := 8) rfl ?_); refine Kd.R_lit (Kd.int .i64) _ 3 ?hg (N := 8) ?hd (xs := ([] : List Int)) (inner := []) (ok := fun _ => True) (okp := fun _ => True) ?hr ?hp (fun _ hk => hk) trivial (Below.refl _ _) (Nat.le_refl _) (by simp) ?_; (case hd => rfl); (case hg => rfl); (case hr => first | (go_simp; done) | (go_simp; rfl)); (case hp => exact (Reps.none _ _)); intro v203 w24 ho25 hb hg_ hnew_; clear hg_ hnew_; (first | rw [← Ny202.out] at ho25 | (simp only [Int.reduceToNat] at ho25; rw [← Ny202.out] at ho25)); have HO204 := Aside0.mk (Kd.R_lower ho25 (below_size (zB HB))); replace HB := bS HB hb; clear hb ho25) | ((with_reducible refine gate_callee (f := 59) rfl ?_); refine goesL_ (some 11) rfl rfl Try.func59 (by kernel_rfl) rfl #[.slice A0 l0.length c0, .slice A1 l1.length c1] rfl zG ?_; (with_reducible refine (spec_FitsFormat.calls k _ _ l0 _ _ l1 false _ ?side1 ?side2 ?side3 ?side4 A3.out).mono ?_); (case side1 => exact cS HR0 HB); (case side2 => exact HC0.out); (case side3 => exact cS HR1 HB); (case side4 => exact HC1.out); rintro e w26 ⟨rfl, hb⟩; refine ⟨_, rfl, ?_⟩; replace HO204 := Aside0.mk (Kd.R_below (zR HO204) hb); replace HB := bS HB hb; (try clear hb)))
  go_ret2
  exact ⟨_, zE, by (with_reducible repeat (first | apply Kd.R_alloc | apply Kd.R_drewN | apply Kd.R_drew)); exact HO204.out, zB HB⟩

/-! ### spec_MakeBytes: function 25 -/
def spec_MakeBytes.f (k : Nat) (l0 : List (S47)) (a1 : Int) : Option (List Int) := (spec_MakeMessage.f k l0 a1).bind fun t220 => ((spec_EncodeMessage.f k l0 t220).bind fun bt223 => (some bt223.1))
theorem spec_MakeBytes.mono : ∀ a0 a1 k, LeO (spec_MakeBytes.f k a0 a1) (spec_MakeBytes.f (k + 1) a0 a1) := by
 intro a0 a1 k
 unfold spec_MakeBytes.f
 repeat' first
   | (with_reducible exact spec_EncodeMessage.mono _ _ _)
   | (with_reducible exact spec_MakeMessage.mono _ _ _)
   | (with_reducible exact LeO.refl _)
   | (with_reducible exact LeO.none _)
   | (with_reducible refine LeO.ite ?_ ?_)
   | (with_reducible refine LeO.bind ?_ (fun _ => ?_))
   | exact spec_EncodeMessage.mono _ _ _
   | exact spec_MakeMessage.mono _ _ _
   | exact LeO.none _
   | refine LeO.ite ?_ ?_
   | refine LeO.bind ?_ (fun _ => ?_)
set_option maxHeartbeats 8000000 in
set_option maxRecDepth 100000 in
theorem spec_MakeBytes.calls (k : Nat) (A0 : Option Addr) (c0 : Nat) (l0 : List (S47)) (a1 : Int) (r : List Int) (w : World) (hr0 : Kd.C k47 w A0 l0.length l0) (hc0 : l0.length ≤ c0) (h : spec_MakeBytes.f k l0 a1 = some r) :
  Calls Try.prog 25 #[.slice A0 l0.length c0, .int .i64 a1] w fun e w' => ∃ v0_ : Value, e = .returned (v0_) ∧ Kd.R (Kd.int .i64) 3 w' w.heap.size (fun _ => True) v0_ r ∧ Below w.heap.size w w' := by
 have HR0 := Aside0.mk hr0
 have HC0 := Aside0.mk hc0
 clear hr0 hc0
 have HB := Aside0.mk (Below.refl w.heap.size w)
 have H : ((spec_MakeMessage.f k l0 a1).bind fun t220 => ((spec_EncodeMessage.f k l0 t220).bind fun bt223 => (some bt223.1))) = some r := h
 clear h
 obtain ⟨t220, A3, H⟩ := bindS H
 replace H := Option.bind_eq_some_iff.mp H
 obtain ⟨⟨t223, t224⟩, A40, H⟩ := H
 replace H : (some t223) = some r := H
 have A4 := Aside0.mk A40
 clear A40
 obtain rfl := Option.some.inj H
 go_enter Try.func25, Try.ntmps25
 go_wp2_with (first | ((with_reducible refine gate_callee (f := 26) rfl ?_); refine goesL_ (some 11) rfl rfl Try.func26 (by kernel_rfl) rfl #[.slice A0 l0.length c0, .int .i64 a1] rfl zG ?_; (with_reducible refine (spec_MakeMessage.calls k _ _ l0 a1 t220 _ ?side1 ?side2 A3.out).mono ?_); (case side1 => exact cT HR0); (case side2 => exact HC0.out); rintro e w5 ⟨v221, rfl, ho0, hb⟩; refine ⟨_, rfl, ?_⟩; have HO222 := Aside0.mk (Kd.S_lower ho0 (below_size (zB HB))); replace HB := bS HB hb; (try clear hb); (try clear ho0); obtain ⟨Ao6, co6, eo6⟩ := Kd.S_slice HO222.out; subst eo6) | ((with_reducible refine gate_callee (f := 45) rfl ?_); refine goesL_ (some 12) rfl rfl Try.func45 (by kernel_rfl) rfl #[.slice A0 l0.length c0, .slice Ao6 t220.length co6] rfl zG ?_; (with_reducible refine (spec_EncodeMessage.calls k _ _ l0 _ _ t220 t223 t224 _ ?side1 ?side2 ?side3 ?side4 A4.out).mono ?_); (case side1 => exact cS HR0 HB); (case side2 => exact HC0.out); (case side3 => repeat (first | exact (Kd.S_reads' HO222.out).2.2 | (with_reducible refine Kd.C_alloc ?_ _) | (with_reducible refine Kd.C_drewN ?_ _) | (with_reducible refine Kd.C_drew ?_))); (case side4 => exact (Kd.S_reads' HO222.out).2.1); rintro e w7 ⟨v225, rfl, ho0, hb⟩; refine ⟨_, rfl, ?_⟩; replace HO222 := Aside0.mk (Kd.S_elder' (zS HO222) (Kd.R_base ho0) hb); have HO226 := Aside0.mk (Kd.R_lower ho0 (below_size (zB HB))); replace HB := bS HB hb; (try clear hb); (try clear ho0)))
 go_ret
 exact ⟨_, zE, by (with_reducible repeat (first | apply Kd.R_alloc | apply Kd.R_drewN | apply Kd.R_drew)); exact HO226.out, zB HB⟩

/-! ### spec_EqualInts: function 47 -/
def spec_EqualInts.l0 : Nat → List Int → List Int → Int → Option (Bool)
 | 0, _, _, _ => none
 | k + 1, x0, x1, x5 => if x5 < (x0.length : Int) then (if 0 ≤ x5 then (if x5 < (x1.length : Int) then (if (rd x0 x5) = (rd x1 x5) then (spec_EqualInts.l0 k x0 x1 (wrap64 (x5 + 1))) else (some false)) else (none)) else (none)) else (some true)
def spec_EqualInts.f (k : Nat) (l0 : List Int) (l1 : List Int) : Option (Bool) := if (l0.length : Int) = (l1.length : Int) then (spec_EqualInts.l0 k l0 l1 0) else (some false)
theorem spec_EqualInts.mono_l : ∀ k, (∀ y0 y1 y2, LeO (spec_EqualInts.l0 k y0 y1 y2) (spec_EqualInts.l0 (k + 1) y0 y1 y2))
 | 0 => fun _ _ _ r h => by simp [spec_EqualInts.l0] at h
 | k + 1 => by
  have ih0 := spec_EqualInts.mono_l k
  ·intro y0 y1 y2
   unfold spec_EqualInts.l0
   repeat' first
   | (with_reducible exact ih0 _ _ _)
   | (with_reducible exact LeO.refl _)
   | (with_reducible exact LeO.none _)
   | (with_reducible refine LeO.ite ?_ ?_)
   | (with_reducible refine LeO.bind ?_ (fun _ => ?_))
   | exact ih0 _ _ _
   | exact LeO.none _
   | refine LeO.ite ?_ ?_
   | refine LeO.bind ?_ (fun _ => ?_)
theorem spec_EqualInts.mono : ∀ a0 a1 k, LeO (spec_EqualInts.f k a0 a1) (spec_EqualInts.f (k + 1) a0 a1) := by
 intro a0 a1 k
 have ih0 := spec_EqualInts.mono_l k
 unfold spec_EqualInts.f
 repeat' first
   | (with_reducible exact ih0 _ _ _)
   | (with_reducible exact LeO.refl _)
   | (with_reducible exact LeO.none _)
   | (with_reducible refine LeO.ite ?_ ?_)
   | (with_reducible refine LeO.bind ?_ (fun _ => ?_))
   | exact ih0 _ _ _
   | exact LeO.none _
   | refine LeO.ite ?_ ?_
   | refine LeO.bind ?_ (fun _ => ?_)
set_option maxHeartbeats 8000000 in
set_option maxRecDepth 100000 in
theorem spec_EqualInts.calls (k : Nat) (A0 : Option Addr) (c0 : Nat) (l0 : List Int) (A1 : Option Addr) (c1 : Nat) (l1 : List Int) (r : Bool) (w : World) (hr0 : Kd.C (Kd.int .i64) w A0 l0.length l0) (hc0 : l0.length ≤ c0) (hr1 : Kd.C (Kd.int .i64) w A1 l1.length l1) (hc1 : l1.length ≤ c1) (h : spec_EqualInts.f k l0 l1 = some r) :
  Calls Try.prog 47 #[.slice A0 l0.length c0, .slice A1 l1.length c1] w fun e w' => e = .returned (.bool r) ∧ Drawn0 w w' := by
 have HR0 := Aside0.mk hr0
 have HC0 := Aside0.mk hc0
 clear hr0 hc0
 have HR1 := Aside0.mk hr1
 have HC1 := Aside0.mk hc1
 clear hr1 hc1
 have H : (if (l0.length : Int) = (l1.length : Int) then (spec_EqualInts.l0 k l0 l1 0) else (some false)) = some r := h
 clear h
 by_cases c3 : (l0.length : Int) = (l1.length : Int)
 ·rw [if_pos c3] at H
  have c3b0 : ((l0.length : Int) == (l1.length : Int)) = true := beq_iff_eq.mpr c3
  have c3b1 : ((l0.length : Int) != (l1.length : Int)) = false := bne_eq_false_iff_eq.mpr c3
  have c3b2 : (l0.length == l1.length) = true := by first | simpa using c3 | (simp at c3 ⊢; omega)
  clear c3
  have H' := Aside0.mk H
  clear H
  go_enter Try.func47, Try.ntmps47
  go_wp2
  repeat (go_quiet (fail); try go_wp2)
  go_loopg [5] k (fun kq v5 w' => ∃ (x5_1 : Int), v5 = .int .i64 x5_1 ∧ Aside0 (spec_EqualInts.l0 kq l0 l1 x5_1 = some r) ∧ Aside0 (kq ≤ k) ∧ Drawn0 w w')
  case atStart => exact ⟨(0), zF, H', ⟨Nat.le_refl _⟩, by repeat (first | exact Drawn0.refl _ | apply Drawn0.step)⟩
  case round =>
   clear H'
   try clear c1
   try clear p2
   try clear c3
   try clear c3b0
   try clear c3b1
   try clear c3b2
   obtain ⟨x5_1, rfl, HA, HK1, ⟨m1, rfl⟩⟩ := hrel
   cases gk with
   | zero => exact absurd HA.out (by simp [spec_EqualInts.l0])
   | succ k1 =>
    have H := HA.out
    clear HA
    simp only [spec_EqualInts.l0] at H
    by_cases c4 : x5_1 < (l0.length : Int)
    ·rw [if_pos c4] at H
     have c4b0 : decide (x5_1 < (l0.length : Int)) = true := decide_eq_true c4
     clear c4
     obtain ⟨c5, H⟩ := ifS H
     have c5b0 : decide (0 ≤ x5_1) = true := decide_eq_true c5
     clear c5
     obtain ⟨c6, H⟩ := ifS H
     have c6b0 : decide (x5_1 < (l1.length : Int)) = true := decide_eq_true c6
     clear c6
     by_cases c7 : (rd l0 x5_1) = (rd l1 x5_1)
     ·rw [if_pos c7] at H
      have c7b0 : ((rd l0 x5_1) == (rd l1 x5_1)) = true := beq_iff_eq.mpr c7
      have c7b1 : ((rd l0 x5_1) != (rd l1 x5_1)) = false := bne_eq_false_iff_eq.mpr c7
      clear c7
      have H' := Aside0.mk H
      clear H
      have p227 : 0 ≤ (x5_1 : Int) := zD
      have q227 : x5_1 < (l0.length : Int) := zD
      obtain ⟨ad227, e227, hx227_0⟩ := Kd.at_int HR0.out x5_1 p227 q227
      cases e227
      replace p227 := eq_true p227
      replace q227 := eq_true q227
      have p228 : 0 ≤ (x5_1 : Int) := zD
      have q228 : x5_1 < (l1.length : Int) := zD
      obtain ⟨ad228, e228, hx228_0⟩ := Kd.at_int HR1.out x5_1 p228 q228
      cases e228
      replace p228 := eq_true p228
      replace q228 := eq_true q228
      go_wp2
      repeat (go_quiet (fail); try go_wp2)
      go_roundg k1
      case measure => have := HK1.out; omega
      case rel => exact ⟨(wrap64 (x5_1 + 1)), zF, H', ⟨by have := HK1.out; omega⟩, by repeat (first | exact Drawn0.refl _ | apply Drawn0.step)⟩
     ·rw [if_neg c7] at H
      have c7b0 : ((rd l0 x5_1) == (rd l1 x5_1)) = false := beq_eq_false_iff_ne.mpr c7
      have c7b1 : ((rd l0 x5_1) != (rd l1 x5_1)) = true := bne_iff_ne.mpr c7
      obtain rfl := Option.some.inj H
      have p227 : 0 ≤ (x5_1 : Int) := zD
      have q227 : x5_1 < (l0.length : Int) := zD
      obtain ⟨ad227, e227, hx227_0⟩ := Kd.at_int HR0.out x5_1 p227 q227
      cases e227
      replace p227 := eq_true p227
      replace q227 := eq_true q227
      have p228 : 0 ≤ (x5_1 : Int) := zD
      have q228 : x5_1 < (l1.length : Int) := zD
      obtain ⟨ad228, e228, hx228_0⟩ := Kd.at_int HR1.out x5_1 p228 q228
      cases e228
      replace p228 := eq_true p228
      replace q228 := eq_true q228
      go_wp2
      repeat (go_quiet (fail); try go_wp2)
      go_ret
      exact ⟨by first | rfl | (simp; done) | (simp [*]; done), by repeat (first | exact Drawn0.refl _ | apply Drawn0.step)⟩
    ·rw [if_neg c4] at H
     have c4b0 : decide (x5_1 < (l0.length : Int)) = false := decide_eq_false c4
     clear c4
     obtain rfl := Option.some.inj H
     go_wp2
     repeat (go_quiet (fail); try go_wp2)
     go_ret
     exact ⟨by first | rfl | (simp; done) | (simp [*]; done), by repeat (first | exact Drawn0.refl _ | apply Drawn0.step)⟩
 ·rw [if_neg c3] at H
  have c3b0 : ((l0.length : Int) == (l1.length : Int)) = false := beq_eq_false_iff_ne.mpr c3
  have c3b1 : ((l0.length : Int) != (l1.length : Int)) = true := bne_iff_ne.mpr c3
  have c3b2 : (l0.length == l1.length) = false := by first | simpa using c3 | (simp at c3 ⊢; omega)
  obtain rfl := Option.some.inj H
  go_enter Try.func47, Try.ntmps47
  go_wp2
  repeat (go_quiet (fail); try go_wp2)
  go_ret
  exact ⟨by first | rfl | (simp; done) | (simp [*]; done), by repeat (first | exact Drawn0.refl _ | apply Drawn0.step)⟩

/-! ### spec_EqualMessages: function 27 -/
def spec_EqualMessages.l0 : Nat → List (S58) → List (S58) → Int → Option (Bool)
 | 0, _, _, _ => none
 | k + 1, x0, x1, x5 => if x5 < (x0.length : Int) then (if 0 ≤ x5 then (if x5 < (x1.length : Int) then (if ((rd_T58 x0 x5).f0) = ((rd_T58 x1 x5).f0) then ((spec_EqualInts.f k ((rd_T58 x0 x5).f1) ((rd_T58 x1 x5).f1)).bind fun t233 => (if t233 = true then (spec_EqualMessages.l0 k x0 x1 (wrap64 (x5 + 1))) else (some false))) else (some false)) else (none)) else (none)) else (some true)
def spec_EqualMessages.f (k : Nat) (l0 : List (S58)) (l1 : List (S58)) : Option (Bool) := if (l0.length : Int) = (l1.length : Int) then (spec_EqualMessages.l0 k l0 l1 0) else (some false)
theorem spec_EqualMessages.mono_l : ∀ k, (∀ y0 y1 y2, LeO (spec_EqualMessages.l0 k y0 y1 y2) (spec_EqualMessages.l0 (k + 1) y0 y1 y2))
 | 0 => fun _ _ _ r h => by simp [spec_EqualMessages.l0] at h
 | k + 1 => by
  have ih0 := spec_EqualMessages.mono_l k
  ·intro y0 y1 y2
   unfold spec_EqualMessages.l0
   repeat' first
   | (with_reducible exact ih0 _ _ _)
   | (with_reducible exact spec_EqualInts.mono _ _ _)
   | (with_reducible exact LeO.refl _)
   | (with_reducible exact LeO.none _)
   | (with_reducible refine LeO.ite ?_ ?_)
   | (with_reducible refine LeO.bind ?_ (fun _ => ?_))
   | exact ih0 _ _ _
   | exact spec_EqualInts.mono _ _ _
   | exact LeO.none _
   | refine LeO.ite ?_ ?_
   | refine LeO.bind ?_ (fun _ => ?_)
theorem spec_EqualMessages.mono : ∀ a0 a1 k, LeO (spec_EqualMessages.f k a0 a1) (spec_EqualMessages.f (k + 1) a0 a1) := by
 intro a0 a1 k
 have ih0 := spec_EqualMessages.mono_l k
 unfold spec_EqualMessages.f
 repeat' first
   | (with_reducible exact ih0 _ _ _)
   | (with_reducible exact spec_EqualInts.mono _ _ _)
   | (with_reducible exact LeO.refl _)
   | (with_reducible exact LeO.none _)
   | (with_reducible refine LeO.ite ?_ ?_)
   | (with_reducible refine LeO.bind ?_ (fun _ => ?_))
   | exact ih0 _ _ _
   | exact spec_EqualInts.mono _ _ _
   | exact LeO.none _
   | refine LeO.ite ?_ ?_
   | refine LeO.bind ?_ (fun _ => ?_)
set_option maxHeartbeats 8000000 in
set_option maxRecDepth 100000 in
theorem spec_EqualMessages.calls (k : Nat) (A0 : Option Addr) (c0 : Nat) (l0 : List (S58)) (A1 : Option Addr) (c1 : Nat) (l1 : List (S58)) (r : Bool) (w : World) (hr0 : Kd.C k58 w A0 l0.length l0) (hc0 : l0.length ≤ c0) (hr1 : Kd.C k58 w A1 l1.length l1) (hc1 : l1.length ≤ c1) (h : spec_EqualMessages.f k l0 l1 = some r) :
  Calls Try.prog 27 #[.slice A0 l0.length c0, .slice A1 l1.length c1] w fun e w' => e = .returned (.bool r) ∧ Drawn0 w w' := by
 have HR0 := Aside0.mk hr0
 have HC0 := Aside0.mk hc0
 clear hr0 hc0
 have HR1 := Aside0.mk hr1
 have HC1 := Aside0.mk hc1
 clear hr1 hc1
 have H : (if (l0.length : Int) = (l1.length : Int) then (spec_EqualMessages.l0 k l0 l1 0) else (some false)) = some r := h
 clear h
 by_cases c3 : (l0.length : Int) = (l1.length : Int)
 ·rw [if_pos c3] at H
  have c3b0 : ((l0.length : Int) == (l1.length : Int)) = true := beq_iff_eq.mpr c3
  have c3b1 : ((l0.length : Int) != (l1.length : Int)) = false := bne_eq_false_iff_eq.mpr c3
  have c3b2 : (l0.length == l1.length) = true := by first | simpa using c3 | (simp at c3 ⊢; omega)
  clear c3
  have H' := Aside0.mk H
  clear H
  go_enter Try.func27, Try.ntmps27
  go_wp2
  repeat (go_quiet (fail); try go_wp2)
  go_loopg [5] k (fun kq v5 w' => ∃ (x5_1 : Int), v5 = .int .i64 x5_1 ∧ Aside0 (spec_EqualMessages.l0 kq l0 l1 x5_1 = some r) ∧ Aside0 (kq ≤ k) ∧ Drawn0 w w')
  case atStart => exact ⟨(0), zF, H', ⟨Nat.le_refl _⟩, by repeat (first | exact Drawn0.refl _ | apply Drawn0.step)⟩
  case round =>
   clear H'
   try clear c1
   try clear c2
   try clear p2
   try clear c3
   try clear c3b0
   try clear c3b1
   try clear c3b2
   obtain ⟨x5_1, rfl, HA, HK1, ⟨m1, rfl⟩⟩ := hrel
   cases gk with
   | zero => exact absurd HA.out (by simp [spec_EqualMessages.l0])
   | succ k1 =>
    have H := HA.out
    clear HA
    simp only [spec_EqualMessages.l0] at H
    by_cases c4 : x5_1 < (l0.length : Int)
    ·rw [if_pos c4] at H
     have c4b0 : decide (x5_1 < (l0.length : Int)) = true := decide_eq_true c4
     clear c4
     obtain ⟨c5, H⟩ := ifS H
     have c5b0 : decide (0 ≤ x5_1) = true := decide_eq_true c5
     clear c5
     obtain ⟨c6, H⟩ := ifS H
     have c6b0 : decide (x5_1 < (l1.length : Int)) = true := decide_eq_true c6
     clear c6
     by_cases c7 : ((rd_T58 l0 x5_1).f0) = ((rd_T58 l1 x5_1).f0)
     ·rw [if_pos c7] at H
      have c7b0 : (((rd_T58 l0 x5_1).f0) == ((rd_T58 l1 x5_1).f0)) = true := beq_iff_eq.mpr c7
      have c7b1 : (((rd_T58 l0 x5_1).f0) != ((rd_T58 l1 x5_1).f0)) = false := bne_eq_false_iff_eq.mpr c7
      clear c7
      obtain ⟨t233, A8, H⟩ := bindS H
      by_cases c9 : t233 = true
      ·subst c9
       have H1 : (spec_EqualMessages.l0 k1 l0 l1 (wrap64 (x5_1 + 1))) = some r := by rw [if_pos rfl] at H; exact H
       clear H
       have H := H1
       clear H1
       have H' := Aside0.mk H
       clear H
       have p229 : 0 ≤ (x5_1 : Int) := zD
       have q229 : x5_1 < (l0.length : Int) := zD
       obtain ⟨ad229, A229_1, c229_1, e229, hx229_0, hx229_1, hl229_1, hi229_1⟩ := at_T58 HR0.out x5_1 p229 q229
       cases e229
       have HR229_1 := Aside0.mk hi229_1
       have HC229_1 := Aside0.mk hl229_1
       clear hi229_1 hl229_1
       replace p229 := eq_true p229
       replace q229 := eq_true q229
       have p230 : 0 ≤ (x5_1 : Int) := zD
       have q230 : x5_1 < (l1.length : Int) := zD
       obtain ⟨ad230, A230_1, c230_1, e230, hx230_0, hx230_1, hl230_1, hi230_1⟩ := at_T58 HR1.out x5_1 p230 q230
       cases e230
       have HR230_1 := Aside0.mk hi230_1
       have HC230_1 := Aside0.mk hl230_1
       clear hi230_1 hl230_1
       replace p230 := eq_true p230
       replace q230 := eq_true q230
       have p231 : 0 ≤ (x5_1 : Int) := zD
       have q231 : x5_1 < (l0.length : Int) := zD
       obtain ⟨ad231, A231_1, c231_1, e231, hx231_0, hx231_1, hl231_1, hi231_1⟩ := at_T58 HR0.out x5_1 p231 q231
       obtain rfl : ad229 = ad231 := (by injection e231)
       have HR231_1 := Aside0.mk hi231_1
       have HC231_1 := Aside0.mk hl231_1
       clear hi231_1 hl231_1
       replace p231 := eq_true p231
       replace q231 := eq_true q231
       have ea_ := Option.some.inj (hx229_1.symm.trans hx231_1)
       injection ea_ with ea_ en_ ec_
       subst ea_
       subst ec_
       clear en_
       have p232 : 0 ≤ (x5_1 : Int) := zD
       have q232 : x5_1 < (l1.length : Int) := zD
       obtain ⟨ad232, A232_1, c232_1, e232, hx232_0, hx232_1, hl232_1, hi232_1⟩ := at_T58 HR1.out x5_1 p232 q232
       obtain rfl : ad230 = ad232 := (by injection e232)
       have HR232_1 := Aside0.mk hi232_1
       have HC232_1 := Aside0.mk hl232_1
       clear hi232_1 hl232_1
       replace p232 := eq_true p232
       replace q232 := eq_true q232
       have ea_ := Option.some.inj (hx230_1.symm.trans hx232_1)
       injection ea_ with ea_ en_ ec_
       subst ea_
       subst ec_
       clear en_
       go_wp2_with (first | (go_at_call 47; (with_reducible refine (spec_EqualInts.calls k1 _ _ ((rd_T58 l0 x5_1).f1) _ _ ((rd_T58 l1 x5_1).f1) true _ ?side1 ?side2 ?side3 ?side4 A8.out).mono ?_); (case side1 => exact cT HR231_1); (case side2 => exact HC231_1.out); (case side3 => exact cT HR232_1); (case side4 => exact HC232_1.out); rintro e w' ⟨rfl, ⟨nd, rfl⟩⟩; (try first | exact ⟨rfl, _, World.drewN_drewN _ _ _⟩ | exact ⟨rfl, _, Eq.trans (World.drewN_drewN _ _ _) (congrArg (World.drewN _) (Nat.add_assoc _ _ _))⟩)))
       repeat (go_quiet (first | (go_at_call 47; (with_reducible refine (spec_EqualInts.calls k1 _ _ ((rd_T58 l0 x5_1).f1) _ _ ((rd_T58 l1 x5_1).f1) true _ ?side1 ?side2 ?side3 ?side4 A8.out).mono ?_); (case side1 => exact cT HR231_1); (case side2 => exact HC231_1.out); (case side3 => exact cT HR232_1); (case side4 => exact HC232_1.out); rintro e w' ⟨rfl, ⟨nd, rfl⟩⟩; (try first | exact ⟨rfl, _, World.drewN_drewN _ _ _⟩ | exact ⟨rfl, _, Eq.trans (World.drewN_drewN _ _ _) (congrArg (World.drewN _) (Nat.add_assoc _ _ _))⟩))); try go_wp2_with (first | (go_at_call 47; (with_reducible refine (spec_EqualInts.calls k1 _ _ ((rd_T58 l0 x5_1).f1) _ _ ((rd_T58 l1 x5_1).f1) true _ ?side1 ?side2 ?side3 ?side4 A8.out).mono ?_); (case side1 => exact cT HR231_1); (case side2 => exact HC231_1.out); (case side3 => exact cT HR232_1); (case side4 => exact HC232_1.out); rintro e w' ⟨rfl, ⟨nd, rfl⟩⟩; (try first | exact ⟨rfl, _, World.drewN_drewN _ _ _⟩ | exact ⟨rfl, _, Eq.trans (World.drewN_drewN _ _ _) (congrArg (World.drewN _) (Nat.add_assoc _ _ _))⟩))))
       go_roundg k1
       case measure => have := HK1.out; omega
       case rel => exact ⟨(wrap64 (x5_1 + 1)), zF, H', ⟨by have := HK1.out; omega⟩, by repeat (first | exact Drawn0.refl _ | apply Drawn0.step)⟩
      ·replace c9 := Bool.eq_false_iff.mpr c9
       subst c9
       have H1 : (some false) = some r := by rw [if_neg (show ¬ (false = true) by decide)] at H; exact H
       clear H
       have H := H1
       clear H1
       obtain rfl := Option.some.inj H
       have p229 : 0 ≤ (x5_1 : Int) := zD
       have q229 : x5_1 < (l0.length : Int) := zD
       obtain ⟨ad229, A229_1, c229_1, e229, hx229_0, hx229_1, hl229_1, hi229_1⟩ := at_T58 HR0.out x5_1 p229 q229
       cases e229
       have HR229_1 := Aside0.mk hi229_1
       have HC229_1 := Aside0.mk hl229_1
       clear hi229_1 hl229_1
       replace p229 := eq_true p229
       replace q229 := eq_true q229
       have p230 : 0 ≤ (x5_1 : Int) := zD
       have q230 : x5_1 < (l1.length : Int) := zD
       obtain ⟨ad230, A230_1, c230_1, e230, hx230_0, hx230_1, hl230_1, hi230_1⟩ := at_T58 HR1.out x5_1 p230 q230
       cases e230
       have HR230_1 := Aside0.mk hi230_1
       have HC230_1 := Aside0.mk hl230_1
       clear hi230_1 hl230_1
       replace p230 := eq_true p230
       replace q230 := eq_true q230
       have p231 : 0 ≤ (x5_1 : Int) := zD
       have q231 : x5_1 < (l0.length : Int) := zD
       obtain ⟨ad231, A231_1, c231_1, e231, hx231_0, hx231_1, hl231_1, hi231_1⟩ := at_T58 HR0.out x5_1 p231 q231
       obtain rfl : ad229 = ad231 := (by injection e231)
       have HR231_1 := Aside0.mk hi231_1
       have HC231_1 := Aside0.mk hl231_1
       clear hi231_1 hl231_1
       replace p231 := eq_true p231
       replace q231 := eq_true q231
       have ea_ := Option.some.inj (hx229_1.symm.trans hx231_1)
       injection ea_ with ea_ en_ ec_
       subst ea_
       subst ec_
       clear en_
       have p232 : 0 ≤ (x5_1 : Int) := zD
       have q232 : x5_1 < (l1.length : Int) := zD
       obtain ⟨ad232, A232_1, c232_1, e232, hx232_0, hx232_1, hl232_1, hi232_1⟩ := at_T58 HR1.out x5_1 p232 q232
       obtain rfl : ad230 = ad232 := (by injection e232)
       have HR232_1 := Aside0.mk hi232_1
       have HC232_1 := Aside0.mk hl232_1
       clear hi232_1 hl232_1
       replace p232 := eq_true p232
       replace q232 := eq_true q232
       have ea_ := Option.some.inj (hx230_1.symm.trans hx232_1)
       injection ea_ with ea_ en_ ec_
       subst ea_
       subst ec_
       clear en_
       go_wp2_with (first | (go_at_call 47; (with_reducible refine (spec_EqualInts.calls k1 _ _ ((rd_T58 l0 x5_1).f1) _ _ ((rd_T58 l1 x5_1).f1) false _ ?side1 ?side2 ?side3 ?side4 A8.out).mono ?_); (case side1 => exact cT HR231_1); (case side2 => exact HC231_1.out); (case side3 => exact cT HR232_1); (case side4 => exact HC232_1.out); rintro e w' ⟨rfl, ⟨nd, rfl⟩⟩; (try first | exact ⟨rfl, _, World.drewN_drewN _ _ _⟩ | exact ⟨rfl, _, Eq.trans (World.drewN_drewN _ _ _) (congrArg (World.drewN _) (Nat.add_assoc _ _ _))⟩)))
       repeat (go_quiet (first | (go_at_call 47; (with_reducible refine (spec_EqualInts.calls k1 _ _ ((rd_T58 l0 x5_1).f1) _ _ ((rd_T58 l1 x5_1).f1) false _ ?side1 ?side2 ?side3 ?side4 A8.out).mono ?_); (case side1 => exact cT HR231_1); (case side2 => exact HC231_1.out); (case side3 => exact cT HR232_1); (case side4 => exact HC232_1.out); rintro e w' ⟨rfl, ⟨nd, rfl⟩⟩; (try first | exact ⟨rfl, _, World.drewN_drewN _ _ _⟩ | exact ⟨rfl, _, Eq.trans (World.drewN_drewN _ _ _) (congrArg (World.drewN _) (Nat.add_assoc _ _ _))⟩))); try go_wp2_with (first | (go_at_call 47; (with_reducible refine (spec_EqualInts.calls k1 _ _ ((rd_T58 l0 x5_1).f1) _ _ ((rd_T58 l1 x5_1).f1) false _ ?side1 ?side2 ?side3 ?side4 A8.out).mono ?_); (case side1 => exact cT HR231_1); (case side2 => exact HC231_1.out); (case side3 => exact cT HR232_1); (case side4 => exact HC232_1.out); rintro e w' ⟨rfl, ⟨nd, rfl⟩⟩; (try first | exact ⟨rfl, _, World.drewN_drewN _ _ _⟩ | exact ⟨rfl, _, Eq.trans (World.drewN_drewN _ _ _) (congrArg (World.drewN _) (Nat.add_assoc _ _ _))⟩))))
       go_ret
       exact ⟨by first | rfl | (simp; done) | (simp [*]; done), by repeat (first | exact Drawn0.refl _ | apply Drawn0.step)⟩
     ·rw [if_neg c7] at H
      have c7b0 : (((rd_T58 l0 x5_1).f0) == ((rd_T58 l1 x5_1).f0)) = false := beq_eq_false_iff_ne.mpr c7
      have c7b1 : (((rd_T58 l0 x5_1).f0) != ((rd_T58 l1 x5_1).f0)) = true := bne_iff_ne.mpr c7
      obtain rfl := Option.some.inj H
      have p229 : 0 ≤ (x5_1 : Int) := zD
      have q229 : x5_1 < (l0.length : Int) := zD
      obtain ⟨ad229, A229_1, c229_1, e229, hx229_0, hx229_1, hl229_1, hi229_1⟩ := at_T58 HR0.out x5_1 p229 q229
      cases e229
      have HR229_1 := Aside0.mk hi229_1
      have HC229_1 := Aside0.mk hl229_1
      clear hi229_1 hl229_1
      replace p229 := eq_true p229
      replace q229 := eq_true q229
      have p230 : 0 ≤ (x5_1 : Int) := zD
      have q230 : x5_1 < (l1.length : Int) := zD
      obtain ⟨ad230, A230_1, c230_1, e230, hx230_0, hx230_1, hl230_1, hi230_1⟩ := at_T58 HR1.out x5_1 p230 q230
      cases e230
      have HR230_1 := Aside0.mk hi230_1
      have HC230_1 := Aside0.mk hl230_1
      clear hi230_1 hl230_1
      replace p230 := eq_true p230
      replace q230 := eq_true q230
      go_wp2
      repeat (go_quiet (fail); try go_wp2)
      go_ret
      exact ⟨by first | rfl | (simp; done) | (simp [*]; done), by repeat (first | exact Drawn0.refl _ | apply Drawn0.step)⟩
    ·rw [if_neg c4] at H
     have c4b0 : decide (x5_1 < (l0.length : Int)) = false := decide_eq_false c4
     clear c4
     obtain rfl := Option.some.inj H
     go_wp2
     repeat (go_quiet (fail); try go_wp2)
     go_ret
     exact ⟨by first | rfl | (simp; done) | (simp [*]; done), by repeat (first | exact Drawn0.refl _ | apply Drawn0.step)⟩
 ·rw [if_neg c3] at H
  have c3b0 : ((l0.length : Int) == (l1.length : Int)) = false := beq_eq_false_iff_ne.mpr c3
  have c3b1 : ((l0.length : Int) != (l1.length : Int)) = true := bne_iff_ne.mpr c3
  have c3b2 : (l0.length == l1.length) = false := by first | simpa using c3 | (simp at c3 ⊢; omega)
  obtain rfl := Option.some.inj H
  go_enter Try.func27, Try.ntmps27
  go_wp2
  repeat (go_quiet (fail); try go_wp2)
  go_ret
  exact ⟨by first | rfl | (simp; done) | (simp [*]; done), by repeat (first | exact Drawn0.refl _ | apply Drawn0.step)⟩

/-! ### spec_SkipsTail: function 7 -/
def spec_SkipsTail.f (k : Nat) (l0 : List (S47)) (l1 : List (S47)) (a2 : Int) : Option (Bool) := (spec_MakeBytes.f k l1 a2).bind fun t234 => ((spec_ReadPrefix.f k l0 t234).bind fun bt237 => ((spec_MakeMessage.f k l1 a2).bind fun t241 => (if bt237.2 ≥ 0 then (if (t241.length : Int) ≥ (bt237.1.length : Int) then (if 0 ≤ (bt237.1.length : Int) then (if (bt237.1.length : Int) ≤ (t241.length : Int) then ((spec_EqualMessages.f k bt237.1 (t241.take ((bt237.1.length : Int) : Int).toNat)).bind fun t248 => (some t248)) else (none)) else (none)) else (some false)) else (some false))))
theorem spec_SkipsTail.mono : ∀ a0 a1 a2 k, LeO (spec_SkipsTail.f k a0 a1 a2) (spec_SkipsTail.f (k + 1) a0 a1 a2) := by
 intro a0 a1 a2 k
 unfold spec_SkipsTail.f
 repeat' first
   | (with_reducible exact spec_EqualMessages.mono _ _ _)
   | (with_reducible exact spec_MakeBytes.mono _ _ _)
   | (with_reducible exact spec_MakeMessage.mono _ _ _)
   | (with_reducible exact spec_ReadPrefix.mono _ _ _)
   | (with_reducible exact LeO.refl _)
   | (with_reducible exact LeO.none _)
   | (with_reducible refine LeO.ite ?_ ?_)
   | (with_reducible refine LeO.bind ?_ (fun _ => ?_))
   | exact spec_EqualMessages.mono _ _ _
   | exact spec_MakeBytes.mono _ _ _
   | exact spec_MakeMessage.mono _ _ _
   | exact spec_ReadPrefix.mono _ _ _
   | exact LeO.none _
   | refine LeO.ite ?_ ?_
   | refine LeO.bind ?_ (fun _ => ?_)
set_option maxHeartbeats 8000000 in
set_option maxRecDepth 100000 in
theorem spec_SkipsTail.calls (k : Nat) (A0 : Option Addr) (c0 : Nat) (l0 : List (S47)) (A1 : Option Addr) (c1 : Nat) (l1 : List (S47)) (a2 : Int) (r : Bool) (w : World) (hr0 : Kd.C k47 w A0 l0.length l0) (hc0 : l0.length ≤ c0) (hr1 : Kd.C k47 w A1 l1.length l1) (hc1 : l1.length ≤ c1) (h : spec_SkipsTail.f k l0 l1 a2 = some r) :
  Calls Try.prog 7 #[.slice A0 l0.length c0, .slice A1 l1.length c1, .int .i64 a2] w fun e w' => e = .returned (.bool r) ∧ Below w.heap.size w w' := by
 have HR0 := Aside0.mk hr0
 have HC0 := Aside0.mk hc0
 clear hr0 hc0
 have HR1 := Aside0.mk hr1
 have HC1 := Aside0.mk hc1
 clear hr1 hc1
 have HB := Aside0.mk (Below.refl w.heap.size w)
 have H : ((spec_MakeBytes.f k l1 a2).bind fun t234 => ((spec_ReadPrefix.f k l0 t234).bind fun bt237 => ((spec_MakeMessage.f k l1 a2).bind fun t241 => (if bt237.2 ≥ 0 then (if (t241.length : Int) ≥ (bt237.1.length : Int) then (if 0 ≤ (bt237.1.length : Int) then (if (bt237.1.length : Int) ≤ (t241.length : Int) then ((spec_EqualMessages.f k bt237.1 (t241.take ((bt237.1.length : Int) : Int).toNat)).bind fun t248 => (some t248)) else (none)) else (none)) else (some false)) else (some false))))) = some r := h
 clear h
 obtain ⟨t234, A4, H⟩ := bindS H
 replace H := Option.bind_eq_some_iff.mp H
 obtain ⟨⟨t237, t238⟩, A50, H⟩ := H
 replace H : ((spec_MakeMessage.f k l1 a2).bind fun t241 => (if t238 ≥ 0 then (if (t241.length : Int) ≥ (t237.length : Int) then (if 0 ≤ (t237.length : Int) then (if (t237.length : Int) ≤ (t241.length : Int) then ((spec_EqualMessages.f k t237 (t241.take ((t237.length : Int) : Int).toNat)).bind fun t248 => (some t248)) else (none)) else (none)) else (some false)) else (some false))) = some r := H
 have A5 := Aside0.mk A50
 clear A50
 obtain ⟨t241, A6, H⟩ := bindS H
 by_cases c7 : t238 ≥ 0
 ·rw [if_pos c7] at H
  have c7b0 : decide (0 ≤ t238) = true := decide_eq_true c7
  clear c7
  by_cases c8 : (t241.length : Int) ≥ (t237.length : Int)
  ·rw [if_pos c8] at H
   have c8b0 : decide ((t237.length : Int) ≤ (t241.length : Int)) = true := decide_eq_true c8
   have c8b1 : decide (t237.length ≤ t241.length) = true := decide_eq_true (Int.ofNat_le.mp c8)
   clear c8
   obtain ⟨c9, H⟩ := ifS H
   have c9b0 := eq_true c9
   have c9b1 : decide (0 ≤ (t237.length : Int)) = true := decide_eq_true c9
   clear c9
   obtain ⟨c10, H⟩ := ifS H
   have c10b0 := eq_true c10
   have c10b1 : decide ((t237.length : Int) ≤ (t241.length : Int)) = true := decide_eq_true c10
   clear c10
   obtain ⟨y244, hy244⟩ : ∃ y_ : List (S58), y_ = (t241.take ((t237.length : Int) : Int).toNat) := ⟨_, rfl⟩
   replace H : ((spec_EqualMessages.f k t237 y244).bind fun t248 => (some t248)) = some r := by first | (rw [hy244]; with_reducible exact H) | (have H2_ := (Option.bind_some _ _).symm.trans H; rw [hy244]; with_reducible exact H2_) | (have H2_ := (Option.bind_some _ _).symm.trans H; with_reducible exact H2_) | with_reducible exact H | (rw [hy244]; exact H) | exact H
   have Ny244 := Aside0.mk hy244
   clear hy244
   obtain ⟨t248, A11, H⟩ := bindS H
   obtain rfl := Option.some.inj H
   go_enter Try.func7, Try.ntmps7
   go_wp2_with (first | ((with_reducible refine gate_callee (f := 25) rfl ?_); refine goesL_ (some 14) rfl rfl Try.func25 (by kernel_rfl) rfl #[.slice A1 l1.length c1, .int .i64 a2] rfl zG ?_; (with_reducible refine (spec_MakeBytes.calls k _ _ l1 a2 t234 _ ?side1 ?side2 A4.out).mono ?_); (case side1 => exact cT HR1); (case side2 => exact HC1.out); rintro e w12 ⟨v235, rfl, ho0, hb⟩; refine ⟨_, rfl, ?_⟩; have HO236 := Aside0.mk (Kd.R_lower ho0 (below_size (zB HB))); replace HB := bS HB hb; (try clear hb); (try clear ho0); obtain ⟨Ao13, co13, eo13⟩ := Kd.R_slice HO236.out; subst eo13) | ((with_reducible refine gate_callee (f := 24) rfl ?_); refine goesL_ (some 15) rfl rfl Try.func24 (by kernel_rfl) rfl #[.slice A0 l0.length c0, .slice Ao13 t234.length co13] rfl zG ?_; (with_reducible refine (spec_ReadPrefix.calls k _ _ l0 _ _ t234 t237 t238 _ ?side1 ?side2 ?side3 ?side4 A5.out).mono ?_); (case side1 => exact cS HR0 HB); (case side2 => exact HC0.out); (case side3 => repeat (first | exact (Kd.R_reads' HO236.out).2.2 | (with_reducible refine Kd.C_alloc ?_ _) | (with_reducible refine Kd.C_drewN ?_ _) | (with_reducible refine Kd.C_drew ?_))); (case side4 => exact (Kd.R_reads' HO236.out).2.1); rintro e w14 ⟨v239, rfl, ho0, hb⟩; refine ⟨_, rfl, ?_⟩; have HO240 := Aside0.mk (Kd.S_lower (Kd.S_new' ho0 (Kd.R_lt (zR HO236))) (below_size (zB HB))); replace HO236 := Aside0.mk (Kd.R_below (zR HO236) hb); replace HB := bS HB hb; (try clear hb); (try clear ho0)) | ((with_reducible refine gate_callee (f := 26) rfl ?_); refine goesL_ (some 20) rfl rfl Try.func26 (by kernel_rfl) rfl #[.slice A1 l1.length c1, .int .i64 a2] rfl zG ?_; (with_reducible refine (spec_MakeMessage.calls k _ _ l1 a2 t241 _ ?side1 ?side2 A6.out).mono ?_); (case side1 => exact cS HR1 HB); (case side2 => exact HC1.out); rintro e w15 ⟨v242, rfl, ho0, hb⟩; refine ⟨_, rfl, ?_⟩; have HO243 := Aside0.mk (Kd.S_lower (Kd.S_new' (Kd.S_new' ho0 (Kd.R_lt (zR HO236))) (Kd.S_lt (zS HO240))) (below_size (zB HB))); replace HO236 := Aside0.mk (Kd.R_below (zR HO236) hb); replace HO240 := Aside0.mk (Kd.S_elder' (zS HO240) (Kd.S_base ho0) hb); replace HB := bS HB hb; (try clear hb); (try clear ho0); obtain ⟨Ao16, co16, eo16⟩ := Kd.S_slice HO243.out; subst eo16; obtain ⟨Ao17, co17, eo17⟩ := Kd.S_slice HO240.out; subst eo17; have q18 : ((t237.length : Int) : Int) ≤ ((t241.length : Int) : Int) := zD; obtain ⟨i018, hi018, _, hsz18, _⟩ := info_parts info58; have hroom18 : t241.length ≤ co16 := (Kd.S_reads' HO243.out).2.1; have hC18 : Kd.C k58 _ Ao16 t241.length t241 := (Kd.S_reads' HO243.out).2.2; have hcut18 := cut_to (P := Try.prog) 39 58 .i64 Try.underlying39 hi018 Ao16 t241.length co16 (t237.length : Int) (zD) q18 hroom18; have hr18 := Kd.C_take (m := ((t237.length : Int) : Int).toNat) hC18 (by omega); have hy18 : y244.length = ((t237.length : Int) : Int).toNat := (by rw [Ny244.out, List.length_take]; omega); rw [← Ny244.out] at hr18; rw [← hy18] at hcut18; have HR247 := Aside0.mk hr18; have HC247 := Aside0.mk (show y244.length ≤ co16 from by omega); clear hr18 hC18 hroom18 hi018 hsz18; have KY18 := Aside0.mk hy18; clear hy18; have KL18 := Aside0.mk (show ((t237.length : Int) : Int).toNat ≤ t241.length from by omega); replace q18 := eq_true q18) | (go_at_call 27; (with_reducible refine (spec_EqualMessages.calls k _ _ t237 _ _ y244 t248 _ ?side1 ?side2 ?side3 ?side4 A11.out).mono ?_); (case side1 => repeat (first | exact (Kd.S_reads' HO240.out).2.2 | (with_reducible refine Kd.C_alloc ?_ _) | (with_reducible refine Kd.C_drewN ?_ _) | (with_reducible refine Kd.C_drew ?_))); (case side2 => exact (Kd.S_reads' HO240.out).2.1); (case side3 => repeat (first | exact (by repeat (first | (with_reducible exact HR247.out) | (with_reducible refine Kd.C_alloc ?_ _) | (with_reducible refine Kd.C_drewN ?_ _) | (with_reducible refine Kd.C_drew ?_) | exact HR247.out)) | (with_reducible refine Kd.C_alloc ?_ _) | (with_reducible refine Kd.C_drewN ?_ _) | (with_reducible refine Kd.C_drew ?_))); (case side4 => exact HC247.out); rintro e w' ⟨rfl, ⟨nd, rfl⟩⟩))
   go_ret
   exact ⟨zE, zB HB⟩
  ·rw [if_neg c8] at H
   have c8b0 : decide ((t237.length : Int) ≤ (t241.length : Int)) = false := decide_eq_false c8
   have c8b1 : decide (t237.length ≤ t241.length) = false := decide_eq_false (fun h => c8 (Int.ofNat_le.mpr h))
   clear c8
   obtain rfl := Option.some.inj H
   go_enter Try.func7, Try.ntmps7
   go_wp2_with (first | ((with_reducible refine gate_callee (f := 25) rfl ?_); refine goesL_ (some 14) rfl rfl Try.func25 (by kernel_rfl) rfl #[.slice A1 l1.length c1, .int .i64 a2] rfl zG ?_; (with_reducible refine (spec_MakeBytes.calls k _ _ l1 a2 t234 _ ?side1 ?side2 A4.out).mono ?_); (case side1 => exact cT HR1); (case side2 => exact HC1.out); rintro e w19 ⟨v235, rfl, ho0, hb⟩; refine ⟨_, rfl, ?_⟩; have HO236 := Aside0.mk (Kd.R_lower ho0 (below_size (zB HB))); replace HB := bS HB hb; (try clear hb); (try clear ho0); obtain ⟨Ao20, co20, eo20⟩ := Kd.R_slice HO236.out; subst eo20) | ((with_reducible refine gate_callee (f := 24) rfl ?_); refine goesL_ (some 15) rfl rfl Try.func24 (by kernel_rfl) rfl #[.slice A0 l0.length c0, .slice Ao20 t234.length co20] rfl zG ?_; (with_reducible refine (spec_ReadPrefix.calls k _ _ l0 _ _ t234 t237 t238 _ ?side1 ?side2 ?side3 ?side4 A5.out).mono ?_); (case side1 => exact cS HR0 HB); (case side2 => exact HC0.out); (case side3 => repeat (first | exact (Kd.R_reads' HO236.out).2.2 | (with_reducible refine Kd.C_alloc ?_ _) | (with_reducible refine Kd.C_drewN ?_ _) | (with_reducible refine Kd.C_drew ?_))); (case side4 => exact (Kd.R_reads' HO236.out).2.1); rintro e w21 ⟨v239, rfl, ho0, hb⟩; refine ⟨_, rfl, ?_⟩; have HO240 := Aside0.mk (Kd.S_lower (Kd.S_new' ho0 (Kd.R_lt (zR HO236))) (below_size (zB HB))); replace HO236 := Aside0.mk (Kd.R_below (zR HO236) hb); replace HB := bS HB hb; (try clear hb); (try clear ho0)) | ((with_reducible refine gate_callee (f := 26) rfl ?_); refine goesL_ (some 20) rfl rfl Try.func26 (by kernel_rfl) rfl #[.slice A1 l1.length c1, .int .i64 a2] rfl zG ?_; (with_reducible refine (spec_MakeMessage.calls k _ _ l1 a2 t241 _ ?side1 ?side2 A6.out).mono ?_); (case side1 => exact cS HR1 HB); (case side2 => exact HC1.out); rintro e w22 ⟨v242, rfl, ho0, hb⟩; refine ⟨_, rfl, ?_⟩; have HO243 := Aside0.mk (Kd.S_lower (Kd.S_new' (Kd.S_new' ho0 (Kd.R_lt (zR HO236))) (Kd.S_lt (zS HO240))) (below_size (zB HB))); replace HO236 := Aside0.mk (Kd.R_below (zR HO236) hb); replace HO240 := Aside0.mk (Kd.S_elder' (zS HO240) (Kd.S_base ho0) hb); replace HB := bS HB hb; (try clear hb); (try clear ho0); obtain ⟨Ao23, co23, eo23⟩ := Kd.S_slice HO243.out; subst eo23; obtain ⟨Ao24, co24, eo24⟩ := Kd.S_slice HO240.out; subst eo24))
   go_ret
   exact ⟨zE, zB HB⟩
 ·rw [if_neg c7] at H
  have c7b0 : decide (0 ≤ t238) = false := decide_eq_false c7
  clear c7
  obtain rfl := Option.some.inj H
  go_enter Try.func7, Try.ntmps7
  go_wp2_with (first | ((with_reducible refine gate_callee (f := 25) rfl ?_); refine goesL_ (some 14) rfl rfl Try.func25 (by kernel_rfl) rfl #[.slice A1 l1.length c1, .int .i64 a2] rfl zG ?_; (with_reducible refine (spec_MakeBytes.calls k _ _ l1 a2 t234 _ ?side1 ?side2 A4.out).mono ?_); (case side1 => exact cT HR1); (case side2 => exact HC1.out); rintro e w25 ⟨v235, rfl, ho0, hb⟩; refine ⟨_, rfl, ?_⟩; have HO236 := Aside0.mk (Kd.R_lower ho0 (below_size (zB HB))); replace HB := bS HB hb; (try clear hb); (try clear ho0); obtain ⟨Ao26, co26, eo26⟩ := Kd.R_slice HO236.out; subst eo26) | ((with_reducible refine gate_callee (f := 24) rfl ?_); refine goesL_ (some 15) rfl rfl Try.func24 (by kernel_rfl) rfl #[.slice A0 l0.length c0, .slice Ao26 t234.length co26] rfl zG ?_; (with_reducible refine (spec_ReadPrefix.calls k _ _ l0 _ _ t234 t237 t238 _ ?side1 ?side2 ?side3 ?side4 A5.out).mono ?_); (case side1 => exact cS HR0 HB); (case side2 => exact HC0.out); (case side3 => repeat (first | exact (Kd.R_reads' HO236.out).2.2 | (with_reducible refine Kd.C_alloc ?_ _) | (with_reducible refine Kd.C_drewN ?_ _) | (with_reducible refine Kd.C_drew ?_))); (case side4 => exact (Kd.R_reads' HO236.out).2.1); rintro e w27 ⟨v239, rfl, ho0, hb⟩; refine ⟨_, rfl, ?_⟩; have HO240 := Aside0.mk (Kd.S_lower (Kd.S_new' ho0 (Kd.R_lt (zR HO236))) (below_size (zB HB))); replace HO236 := Aside0.mk (Kd.R_below (zR HO236) hb); replace HB := bS HB hb; (try clear hb); (try clear ho0)) | ((with_reducible refine gate_callee (f := 26) rfl ?_); refine goesL_ (some 20) rfl rfl Try.func26 (by kernel_rfl) rfl #[.slice A1 l1.length c1, .int .i64 a2] rfl zG ?_; (with_reducible refine (spec_MakeMessage.calls k _ _ l1 a2 t241 _ ?side1 ?side2 A6.out).mono ?_); (case side1 => exact cS HR1 HB); (case side2 => exact HC1.out); rintro e w28 ⟨v242, rfl, ho0, hb⟩; refine ⟨_, rfl, ?_⟩; have HO243 := Aside0.mk (Kd.S_lower (Kd.S_new' (Kd.S_new' ho0 (Kd.R_lt (zR HO236))) (Kd.S_lt (zS HO240))) (below_size (zB HB))); replace HO236 := Aside0.mk (Kd.R_below (zR HO236) hb); replace HO240 := Aside0.mk (Kd.S_elder' (zS HO240) (Kd.S_base ho0) hb); replace HB := bS HB hb; (try clear hb); (try clear ho0)))
  go_ret
  exact ⟨zE, zB HB⟩

/-! ### laws_toField: function 28 -/
def laws_toField.f (a0_0 : Int) (a0_1 : Int) (a0_2 : Int) (a0_3 : Int) : Option (Int × Int × Int × Int) := some (a0_0, a0_1, a0_2, a0_3)
set_option maxHeartbeats 8000000 in
set_option maxRecDepth 100000 in
theorem laws_toField.calls (a0_0 : Int) (a0_1 : Int) (a0_2 : Int) (a0_3 : Int) (r1 : Int) (r2 : Int) (r3 : Int) (r4 : Int) (w : World) (h : laws_toField.f a0_0 a0_1 a0_2 a0_3 = some (r1, r2, r3, r4)) :
  Calls Try.prog 28 #[.agg #[.int .i64 a0_0, .int .i64 a0_1, .int .i64 a0_2, .int .i64 a0_3]] w fun e w' => e = .returned (.agg #[.int .i64 r1, .int .i64 r2, .int .i64 r3, .int .i64 r4]) ∧ Below w.heap.size w w' := by
 have hu49 := Try.underlying49
 have hu47 := Try.underlying47
 have HB := Aside0.mk (Below.refl w.heap.size w)
 have H : (some (a0_0, a0_1, a0_2, a0_3)) = some (r1, r2, r3, r4) := h
 clear h
 simp only [Option.some.injEq, Prod.mk.injEq] at H
 obtain ⟨rfl, rfl, rfl, rfl⟩ := H
 go_enter Try.func28, Try.ntmps28
 go_wp2_with (first | ((with_reducible refine gate_dst (N := 1) rfl ?_); refine box_event ?hg (N := 1) ?hd (cs := #[.int .i64 a0_0, .int .i64 a0_1, .int .i64 a0_2, .int .i64 a0_3]) (t := 49) ?hr ?_; (case hd => rfl); (case hg => rfl); (case hr => first | (go_simp; done) | (go_simp; rfl)); intro gb249 hg w2 hbox hb; have BK249 := Aside0.mk (hbox); have GW249 := gS HB hg; have GE249 := gS HB hg; replace HB := bS HB hb; clear hb hbox hg) | ((with_reducible refine gate_dst (N := 2) rfl ?_); refine box_event ?hg (N := 2) ?hd (cs := #[.int .i64 0, .int .i64 0, .int .i64 0, .int .i64 0]) (t := 47) ?hr ?_; (case hd => rfl); (case hg => rfl); (case hr => first | (go_simp; done) | (go_simp; rfl)); intro gb250 hg w3 hbox hb; have BK250 := Aside0.mk (hbox); have GW250 := gS HB hg; have GE250 := gS HB hg; replace HB := bS HB hb; have NB249_250 := nL BK249 hg; have NB250_249 := nR BK249 hg; replace BK249 := kB BK249 hb; clear hb hbox hg) | ((with_reducible refine gate_dst (N := 3) rfl ?_); refine box_event ?hg (N := 3) ?hd (cs := #[.int .i64 0, .int .i64 0, .int .i64 0, .int .i64 0]) (t := 47) ?hr ?_; (case hd => rfl); (case hg => rfl); (case hr => first | (go_simp; done) | (go_simp; rfl)); intro gb251 hg w4 hbox hb; have BK251 := Aside0.mk (hbox); have GW251 := gS HB hg; have GE251 := gS HB hg; replace HB := bS HB hb; have NB249_251 := nL BK249 hg; have NB251_249 := nR BK249 hg; replace BK249 := kB BK249 hb; have NB250_251 := nL BK250 hg; have NB251_250 := nR BK250 hg; replace BK250 := kB BK250 hb; clear hb hbox hg; have hnb5 := NB249_250.out; have hnc5 := NB250_249.out; have hnb6 := NB249_251.out; have hnc6 := NB251_249.out; have hcz7_0 := bc0 BK249; have hcz7_1 := bc1 BK249; have hcz7_2 := bc2 BK249; have hcz7_3 := bc3 BK249; have hfz7_0 := bf BK249 0; have hfz7_1 := bf BK249 1; have hfz7_2 := bf BK249 2; have hfz7_3 := bf BK249 3; have hnb8 := NB251_250.out; have hnc8 := NB250_251.out; have hcz9_0 := bc0 BK251; have hcz9_1 := bc1 BK251; have hcz9_2 := bc2 BK251; have hcz9_3 := bc3 BK251; have hfz9_0 := bf BK251 0; have hfz9_1 := bf BK251 1; have hfz9_2 := bf BK251 2; have hfz9_3 := bf BK251 3; have hcz10_0 := bc0 BK250; have hcz10_1 := bc1 BK250; have hcz10_2 := bc2 BK250; have hcz10_3 := bc3 BK250; have hfz10_0 := bf BK250 0; have hfz10_1 := bf BK250 1; have hfz10_2 := bf BK250 2; have hfz10_3 := bf BK250 3))
 refine bodyPost_ret (results_cell_row rfl _ _ gb250 47 #[.int .i64 a0_0, .int .i64 a0_1, .int .i64 a0_2, .int .i64 a0_3] (0, 0) _ rfl (by (with_reducible repeat (first | refine blk_drewN ?_ _ | refine blk_drew ?_ | refine blk_alloc ?_ _)); refine blk_put (cs := #[.int .i64 a0_0, .int .i64 a0_1, .int .i64 a0_2, .int .i64 0]) ?_ 3 _ rfl; (with_reducible repeat (first | refine blk_drewN ?_ _ | refine blk_drew ?_ | refine blk_alloc ?_ _)); refine blk_put (cs := #[.int .i64 a0_0, .int .i64 a0_1, .int .i64 0, .int .i64 0]) ?_ 2 _ rfl; (with_reducible repeat (first | refine blk_drewN ?_ _ | refine blk_drew ?_ | refine blk_alloc ?_ _)); refine blk_put (cs := #[.int .i64 a0_0, .int .i64 0, .int .i64 0, .int .i64 0]) ?_ 1 _ rfl; (with_reducible repeat (first | refine blk_drewN ?_ _ | refine blk_drew ?_ | refine blk_alloc ?_ _)); refine blk_put (cs := #[.int .i64 0, .int .i64 0, .int .i64 0, .int .i64 0]) ?_ 0 _ rfl; (with_reducible repeat (first | refine blk_drewN ?_ _ | refine blk_drew ?_ | refine blk_alloc ?_ _)); refine blk_far ?_ NB250_251.out _; (with_reducible repeat (first | refine blk_drewN ?_ _ | refine blk_drew ?_ | refine blk_alloc ?_ _)); refine blk_far ?_ NB250_251.out _; (with_reducible repeat (first | refine blk_drewN ?_ _ | refine blk_drew ?_ | refine blk_alloc ?_ _)); refine blk_far ?_ NB250_251.out _; (with_reducible repeat (first | refine blk_drewN ?_ _ | refine blk_drew ?_ | refine blk_alloc ?_ _)); refine blk_far ?_ NB250_251.out _; (with_reducible repeat (first | refine blk_drewN ?_ _ | refine blk_drew ?_ | refine blk_alloc ?_ _)); exact BK250.out) Try.underlying47 rfl (by kernel_rfl)) rfl ?_
 exact ⟨zE, zB HB⟩

/-! ### laws_toFieldS: function 8 -/
def laws_toFieldS.l0 : Nat → List (S49) → List (S47) → Int → Option ((List (S47)))
 | 0, _, _, _ => none
 | k + 1, x0, x3, x4 => if x4 < (x0.length : Int) then (if 0 ≤ x4 then ((laws_toField.f ((rd_T49 x0 x4).f0) ((rd_T49 x0 x4).f1) ((rd_T49 x0 x4).f2) ((rd_T49 x0 x4).f3)).bind fun bt256 => (if x4 < (x3.length : Int) then (laws_toFieldS.l0 k x0 (x3.set (x4 : Int).toNat (⟨bt256.1, bt256.2.1, bt256.2.2.1, bt256.2.2.2⟩ : S47)) (wrap64 (x4 + 1))) else (none))) else (none)) else (some x3)
def laws_toFieldS.f (k : Nat) (l0 : List (S49)) : Option ((List (S47))) := if 0 ≤ (l0.length : Int) then (if ((l0.length : Int) : Int).toNat ≤ 8796093022208 then (laws_toFieldS.l0 k l0 (List.replicate ((l0.length : Int) : Int).toNat z47) 0) else (none)) else (none)
theorem laws_toFieldS.mono_l : ∀ k, (∀ y0 y1 y2, LeO (laws_toFieldS.l0 k y0 y1 y2) (laws_toFieldS.l0 (k + 1) y0 y1 y2))
 | 0 => fun _ _ _ r h => by simp [laws_toFieldS.l0] at h
 | k + 1 => by
  have ih0 := laws_toFieldS.mono_l k
  ·intro y0 y1 y2
   unfold laws_toFieldS.l0
   repeat' first
   | (with_reducible exact ih0 _ _ _)
   | (with_reducible exact LeO.refl _)
   | (with_reducible exact LeO.none _)
   | (with_reducible refine LeO.ite ?_ ?_)
   | (with_reducible refine LeO.bind ?_ (fun _ => ?_))
   | exact ih0 _ _ _
   | exact LeO.none _
   | refine LeO.ite ?_ ?_
   | refine LeO.bind ?_ (fun _ => ?_)
theorem laws_toFieldS.mono : ∀ a0 k, LeO (laws_toFieldS.f k a0) (laws_toFieldS.f (k + 1) a0) := by
 intro a0 k
 have ih0 := laws_toFieldS.mono_l k
 unfold laws_toFieldS.f
 repeat' first
   | (with_reducible exact ih0 _ _ _)
   | (with_reducible exact LeO.refl _)
   | (with_reducible exact LeO.none _)
   | (with_reducible refine LeO.ite ?_ ?_)
   | (with_reducible refine LeO.bind ?_ (fun _ => ?_))
   | exact ih0 _ _ _
   | exact LeO.none _
   | refine LeO.ite ?_ ?_
   | refine LeO.bind ?_ (fun _ => ?_)
set_option maxHeartbeats 8000000 in
set_option maxRecDepth 100000 in
theorem laws_toFieldS.calls (k : Nat) (A0 : Option Addr) (c0 : Nat) (l0 : List (S49)) (r : List (S47)) (w : World) (hr0 : Kd.C k49 w A0 l0.length l0) (hc0 : l0.length ≤ c0) (h : laws_toFieldS.f k l0 = some r) :
  Calls Try.prog 8 #[.slice A0 l0.length c0] w fun e w' => ∃ v0_ : Value, e = .returned (v0_) ∧ Kd.R k47 47 w' w.heap.size (fun _ => True) v0_ r ∧ Below w.heap.size w w' := by
 have hu49 := Try.underlying49
 have hu47 := Try.underlying47
 have HR0 := Aside0.mk hr0
 have HC0 := Aside0.mk hc0
 clear hr0 hc0
 have HB := Aside0.mk (Below.refl w.heap.size w)
 have H : (if 0 ≤ (l0.length : Int) then (if ((l0.length : Int) : Int).toNat ≤ 8796093022208 then (laws_toFieldS.l0 k l0 (List.replicate ((l0.length : Int) : Int).toNat z47) 0) else (none)) else (none)) = some r := h
 clear h
 by_cases c2 : 0 ≤ (l0.length : Int)
 ·rw [if_pos c2] at H
  have c2b0 := eq_true c2
  have c2b1 : decide (0 ≤ (l0.length : Int)) = true := decide_eq_true c2
  clear c2
  obtain ⟨c3, H⟩ := ifS H
  have c3b0 := eq_true c3
  have c3b1 : decide (((l0.length : Int) : Int).toNat ≤ 8796093022208) = true := decide_eq_true c3
  clear c3
  obtain ⟨y252, hy252⟩ : ∃ y_ : List (S47), y_ = (List.replicate ((l0.length : Int) : Int).toNat z47) := ⟨_, rfl⟩
  replace H : (laws_toFieldS.l0 k l0 y252 0) = some r := by first | (rw [hy252]; with_reducible exact H) | (have H2_ := (Option.bind_some _ _).symm.trans H; rw [hy252]; with_reducible exact H2_) | (have H2_ := (Option.bind_some _ _).symm.trans H; with_reducible exact H2_) | with_reducible exact H | (rw [hy252]; exact H) | exact H
  have Ny252 := Aside0.mk hy252
  clear hy252
  have H' := Aside0.mk H
  clear H
  go_enter Try.func8, Try.ntmps8
  go_wp2_with (first | ((with_reducible refine gate_dst (N := 7) rfl ?_); refine Kd.R_make k47 _ 47 rfl (N := 7) rfl 25 _ _ rfl (l0.length : Int) rfl rfl Try.underlying25 (.agg #[(.int .i64 0), (.int .i64 0), (.int .i64 0), (.int .i64 0)]) 32 info47 rfl (by decide) (by omega) z47 (ok := fun _ => True) (okp := fun _ => True) (k47_mkM _ _ _ z47 ) (fun _ hk => hk) trivial (zD) (Nat.le_trans (Nat.mul_le_mul_right _ (zD : (l0.length : Int).toNat ≤ 8796093022208)) (by omega)) (Below.refl _ _) (Nat.le_refl _) ?_; intro v253 w4 ho5 hb hg_ hnew_; clear hg_ hnew_; (first | rw [← Ny252.out] at ho5 | (simp only [Int.reduceToNat] at ho5; rw [← Ny252.out] at ho5)); have HO254 := Aside0.mk (Kd.R_lower ho5 (below_size (zB HB))); replace HB := bS HB hb; clear hb ho5))
  go_loopg [4] k (fun kq v4 w' => ∃ (x3_1 : List (S47)) (x4_1 : Int), v4 = .int .i64 x4_1 ∧ Aside0 (laws_toFieldS.l0 kq l0 x3_1 x4_1 = some r) ∧ Aside0 (kq ≤ k) ∧ Aside0 (Kd.R k47 47 w' w.heap.size (fun _ => True) v253 x3_1) ∧ Aside0 (Below w.heap.size w w'))
  case atStart => exact ⟨(y252), (0), zF, H', ⟨Nat.le_refl _⟩, ⟨zR HO254⟩, ⟨zB HB⟩⟩
  case round =>
   clear H'
   try clear c2
   try clear c2b0
   try clear c2b1
   try clear p2
   try clear c3
   try clear c3b0
   try clear c3b1
   obtain ⟨x3_1, x4_1, rfl, HA, HK1, HO_3, HB⟩ := hrel
   cases gk with
   | zero => exact absurd HA.out (by simp [laws_toFieldS.l0])
   | succ k1 =>
    have H := HA.out
    clear HA
    simp only [laws_toFieldS.l0] at H
    by_cases c6 : x4_1 < (l0.length : Int)
    ·rw [if_pos c6] at H
     have c6b0 : decide (x4_1 < (l0.length : Int)) = true := decide_eq_true c6
     clear c6
     obtain ⟨c7, H⟩ := ifS H
     have c7b0 : decide (0 ≤ x4_1) = true := decide_eq_true c7
     clear c7
     replace H := Option.bind_eq_some_iff.mp H
     obtain ⟨⟨t256, t257, t258, t259⟩, A80, H⟩ := H
     replace H : (if x4_1 < (x3_1.length : Int) then (laws_toFieldS.l0 k1 l0 (x3_1.set (x4_1 : Int).toNat (⟨t256, t257, t258, t259⟩ : S47)) (wrap64 (x4_1 + 1))) else (none)) = some r := H
     have A8 := Aside0.mk A80
     clear A80
     obtain ⟨c9, H⟩ := ifS H
     have c9b0 : decide (x4_1 < (x3_1.length : Int)) = true := decide_eq_true c9
     clear c9
     obtain ⟨y260, hy260⟩ : ∃ y_ : List (S47), y_ = (x3_1.set (x4_1 : Int).toNat (⟨t256, t257, t258, t259⟩ : S47)) := ⟨_, rfl⟩
     replace H : (laws_toFieldS.l0 k1 l0 y260 (wrap64 (x4_1 + 1))) = some r := by first | (rw [hy260]; with_reducible exact H) | (have H2_ := (Option.bind_some _ _).symm.trans H; rw [hy260]; with_reducible exact H2_) | (have H2_ := (Option.bind_some _ _).symm.trans H; with_reducible exact H2_) | with_reducible exact H | (rw [hy260]; exact H) | exact H
     have Ny260 := Aside0.mk hy260
     clear hy260
     have H' := Aside0.mk H
     clear H
     have p255 : 0 ≤ (x4_1 : Int) := zD
     have q255 : x4_1 < (l0.length : Int) := zD
     obtain ⟨ad255, e255, hx255_0, hx255_1, hx255_2, hx255_3⟩ := at_T49 HR0.out x4_1 p255 q255
     cases e255
     replace hx255_0 := hL HB hx255_0
     replace hx255_1 := hL HB hx255_1
     replace hx255_2 := hL HB hx255_2
     replace hx255_3 := hL HB hx255_3
     replace p255 := eq_true p255
     replace q255 := eq_true q255
     go_wp2_with (first | ((with_reducible refine gate_callee (f := 28) rfl ?_); refine goesL_ (some 20) rfl rfl Try.func28 (by kernel_rfl) rfl #[.agg #[.int .i64 ((rd_T49 l0 x4_1).f0), .int .i64 ((rd_T49 l0 x4_1).f1), .int .i64 ((rd_T49 l0 x4_1).f2), .int .i64 ((rd_T49 l0 x4_1).f3)]] rfl zG ?_; (with_reducible refine (laws_toField.calls ((rd_T49 l0 x4_1).f0) ((rd_T49 l0 x4_1).f1) ((rd_T49 l0 x4_1).f2) ((rd_T49 l0 x4_1).f3) t256 t257 t258 t259 _ A8.out).mono ?_); rintro e w11 ⟨rfl, hb⟩; refine ⟨_, rfl, ?_⟩; replace HO_3 := Aside0.mk (Kd.R_below (zR HO_3) hb); replace HB := bS HB hb; (try clear hb); have p10 : 0 ≤ (x4_1 : Int) := zD; have q10 : (x4_1 : Int) < ((x3_1.length : Int) : Int) := zD; obtain ⟨go10, co10, eo10, gb10, gl10, cl10, HG10⟩ := Kd.R_form HO_3.out (by omega); (first | cases eo10 | (injection eo10 with ea_ en_ ec_; (first | subst ea_ | (injection ea_ with ea_; subst ea_)); subst ec_; clear en_)); have GB10 := Aside0.mk gb10; have GG10 := Aside0.mk HG10; clear gb10 gl10 HG10; obtain ⟨ce10, hcl10, hM10, hcc10, hfr10⟩ := Kd.R_elem HO_3.out z47 (x4_1 : Int) p10 q10; obtain rfl := k47_openM hM10; have hx10_0 : w11.cell? ⟨go10, (x4_1 : Int).toNat * 4, none⟩ = some (.int .i64 ((rd_T47 x3_1 x4_1).f0)) := hcc10 0 _ rfl; have hx10_1 : w11.cell? ⟨go10, (x4_1 : Int).toNat * 4 + 1, none⟩ = some (.int .i64 ((rd_T47 x3_1 x4_1).f1)) := hcc10 1 _ rfl; have hx10_2 : w11.cell? ⟨go10, (x4_1 : Int).toNat * 4 + 2, none⟩ = some (.int .i64 ((rd_T47 x3_1 x4_1).f2)) := hcc10 2 _ rfl; have hx10_3 : w11.cell? ⟨go10, (x4_1 : Int).toNat * 4 + 3, none⟩ = some (.int .i64 ((rd_T47 x3_1 x4_1).f3)) := hcc10 3 _ rfl; have hf10_0 : w11.frozen? ⟨go10, (x4_1 : Int).toNat * 4, none⟩ = false := hfr10 0; have hf10_1 : w11.frozen? ⟨go10, (x4_1 : Int).toNat * 4 + 1, none⟩ = false := hfr10 1; have hf10_2 : w11.frozen? ⟨go10, (x4_1 : Int).toNat * 4 + 2, none⟩ = false := hfr10 2; have hf10_3 : w11.frozen? ⟨go10, (x4_1 : Int).toNat * 4 + 3, none⟩ = false := hfr10 3; clear hcl10 hcc10 hfr10 hM10; replace p10 := eq_true p10; replace q10 := eq_true q10; have HX12 := Aside0.mk (show Kd.R k47 47 w11 w.heap.size (fun _ => True) (.slice (some ⟨go10, 0, none⟩) x3_1.length co10) x3_1 from (zR HO_3)); obtain ⟨ce12, hcl12, hM12, hcc12, hfr12⟩ := Kd.R_elem HX12.out z47 (x4_1 : Int) (zD) (by have h_ : (x4_1 : Int) < ((x3_1.length : Int) : Int) := zD; first | exact h_ | (have e_ := (Kd.R_reads' HO_3.out).1; omega) | simpa using h_); obtain rfl := k47_openM hM12; have HP12 := Kd.R_seg HX12.out (x4_1 : Int) (zD) (by have h_ : (x4_1 : Int) < ((x3_1.length : Int) : Int) := zD; first | exact h_ | (have e_ := (Kd.R_reads' HO_3.out).1; omega) | simpa using h_) (seg := [.int .i64 t256, .int .i64 t257, .int .i64 t258, .int .i64 t259]) (j := 0) hcl12 hcc12 (show 4 ≤ 4 from by decide) (x' := (⟨t256, t257, t258, t259⟩ : S47)) (k47_mkM _ _ _ (⟨t256, t257, t258, t259⟩ : S47) ) (fun _ hk => hk); have hx12_0 := hcc12 0 _ rfl; (try simp only [show (k47).sz = 4 from rfl, Nat.mul_one, Nat.add_zero] at hx12_0); have hf12_0 := hfr12 0; (try simp only [show (k47).sz = 4 from rfl, Nat.mul_one, Nat.add_zero] at hf12_0); have hx12_1 := hcc12 1 _ rfl; (try simp only [show (k47).sz = 4 from rfl, Nat.mul_one, Nat.add_zero] at hx12_1); have hf12_1 := hfr12 1; (try simp only [show (k47).sz = 4 from rfl, Nat.mul_one, Nat.add_zero] at hf12_1); have hx12_2 := hcc12 2 _ rfl; (try simp only [show (k47).sz = 4 from rfl, Nat.mul_one, Nat.add_zero] at hx12_2); have hf12_2 := hfr12 2; (try simp only [show (k47).sz = 4 from rfl, Nat.mul_one, Nat.add_zero] at hf12_2); have hx12_3 := hcc12 3 _ rfl; (try simp only [show (k47).sz = 4 from rfl, Nat.mul_one, Nat.add_zero] at hx12_3); have hf12_3 := hfr12 3; (try simp only [show (k47).sz = 4 from rfl, Nat.mul_one, Nat.add_zero] at hf12_3); clear hcl12 hcc12 hfr12 hM12) | ((with_reducible refine gate_store (t := 47) (p := 21) rfl ?_); refine store_event (t := 47) (p := 21) (v := ?vo_w13) (w1 := ((((w11.setCell ⟨go10, (x4_1 : Int).toNat * 4, none⟩ (.int .i64 t256)).setCell ⟨go10, (x4_1 : Int).toNat * 4 + 1, none⟩ (.int .i64 t257)).setCell ⟨go10, (x4_1 : Int).toNat * 4 + 2, none⟩ (.int .i64 t258)).setCell ⟨go10, (x4_1 : Int).toNat * 4 + 3, none⟩ (.int .i64 t259))) ?hg ?ho ?hn ?hr ?_; (case ho => rfl); (case hg => rfl); (case hn => rfl); (case hr => first | (go_simp; done) | (go_simp; rfl)); intro w13 hw; have hg : w11.grownBy w13 (some go10) := (by rw [hw]; exact HP12.2); have hp_ : Kd.R k47 47 w13 w.heap.size (fun _ => True) (.slice (some ⟨go10, 0, none⟩) x3_1.length co10) y260 := (by rw [hw, Ny260.out]; exact HP12.1); clear HP12; replace HO_3 := Aside0.mk (hp_); replace HB := Aside0.mk ((by rw [hw]; exact below_set (below_set (below_set (below_set (HB.out) GB10.out) GB10.out) GB10.out) GB10.out : Below w.heap.size w w13)); clear hg hw hp_))
     go_roundg k1
     case measure => have := HK1.out; omega
     case rel => exact ⟨(y260), (wrap64 (x4_1 + 1)), zF, H', ⟨by have := HK1.out; omega⟩, ⟨zR HO_3⟩, ⟨zB HB⟩⟩
    ·rw [if_neg c6] at H
     have c6b0 : decide (x4_1 < (l0.length : Int)) = false := decide_eq_false c6
     clear c6
     obtain rfl := Option.some.inj H
     go_wp2
     go_ret
     exact ⟨_, zE, by (with_reducible repeat (first | apply Kd.R_alloc | apply Kd.R_drewN | apply Kd.R_drew)); exact HO_3.out, zB HB⟩
 ·rw [if_neg c2] at H
  exact absurd H (by simp)

/-! ### impl_InRange: function 33 -/
def impl_InRange.f (a0 : Int) (a1 : Int) (a2 : Int) : Option (Bool) := if a1 ≤ a0 then (some (decide (a0 ≤ a2))) else (some false)
set_option maxHeartbeats 8000000 in
set_option maxRecDepth 100000 in
theorem impl_InRange.calls (a0 : Int) (a1 : Int) (a2 : Int) (r : Bool) (w : World) (h : impl_InRange.f a0 a1 a2 = some r) :
  Calls Try.prog 33 #[.int .i64 a0, .int .i64 a1, .int .i64 a2] w fun e w' => e = .returned (.bool r) ∧ Drawn0 w w' := by
 have H : (if a1 ≤ a0 then (some (decide (a0 ≤ a2))) else (some false)) = some r := h
 clear h
 by_cases c4 : a1 ≤ a0
 ·rw [if_pos c4] at H
  have c4b0 : decide (a1 ≤ a0) = true := decide_eq_true c4
  clear c4
  obtain rfl := Option.some.inj H
  go_enter Try.func33, Try.ntmps33
  go_wp2
  go_ret
  exact ⟨by first | rfl | (simp; done) | (simp [*]; done), by repeat (first | exact Drawn0.refl _ | apply Drawn0.step)⟩
 ·rw [if_neg c4] at H
  have c4b0 : decide (a1 ≤ a0) = false := decide_eq_false c4
  clear c4
  obtain rfl := Option.some.inj H
  go_enter Try.func33, Try.ntmps33
  go_wp2
  go_ret
  exact ⟨by first | rfl | (simp; done) | (simp [*]; done), by repeat (first | exact Drawn0.refl _ | apply Drawn0.step)⟩

end Go.Proofs.Yticpmgofegaaeaa.PFnExactSkipsTail
