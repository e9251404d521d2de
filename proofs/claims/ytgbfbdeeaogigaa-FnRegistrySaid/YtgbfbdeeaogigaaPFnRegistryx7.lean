-- WRITTEN by pp.py, this session's own wrapper around the print; not trusted: Lean checks it
import Derived.Test.YtgbfbdeeaogigaaPFnRegistryx0
import Derived.Test.YtgbfbdeeaogigaaPFnRegistryx1
import Derived.Test.YtgbfbdeeaogigaaPFnRegistryx6
namespace Go.Proofs.Ytgbfbdeeaogigaa.PFnRegistry
open Go.RowKit Go.Proofs.Ytgbfbdeeaogigaa.Hw Go.Proofs.YtgbfbdeeaogigaaW.PrintWords Go.Proofs.YtgbfbdeeaogigaaW.PrintLast Go.Proofs.YtgbfbdeeaogigaaW.PrintMore
attribute [local go_sem] max2_int min2_int max_two min_two max_three min_three max_four min_four   -- for this text's walks alone
set_option linter.unusedVariables false
set_option linter.unusedSimpArgs false
set_option linter.unusedSectionVars false

/-! ### impl_ClashOf: function 21 -/
def impl_ClashOf.l0 : Nat → List (S43) → Int → List Int → List Int → Int → Int → Option (List Int)
 | 0, _, _, _, _, _, _ => none
 | k + 1, x0, x2, x7, x12, x13, x14 => if x14 < x13 then (if 0 ≤ x14 then (if x14 < (x12.length : Int) then ((impl_OwnerOf.f x0 (rd x12 x14)).bind fun t361 => (if t361 ≥ 0 then (if t361 = x2 then ((impl_IsReserved.f (rd x12 x14)).bind fun t362 => (if t362 = true then (if x7.length < 17592186044416 then (impl_ClashOf.l0 k x0 x2 (x7 ++ [rd x12 x14]) x12 x13 (wrap64 (x14 + 1))) else (none)) else (impl_ClashOf.l0 k x0 x2 x7 x12 x13 (wrap64 (x14 + 1))))) else (if x7.length < 17592186044416 then (impl_ClashOf.l0 k x0 x2 (x7 ++ [rd x12 x14]) x12 x13 (wrap64 (x14 + 1))) else (none))) else ((impl_IsReserved.f (rd x12 x14)).bind fun t369 => (if t369 = true then (if x7.length < 17592186044416 then (impl_ClashOf.l0 k x0 x2 (x7 ++ [rd x12 x14]) x12 x13 (wrap64 (x14 + 1))) else (none)) else (impl_ClashOf.l0 k x0 x2 x7 x12 x13 (wrap64 (x14 + 1))))))) else (none)) else (none)) else (some x7)
def impl_ClashOf.f (k : Nat) (l0 : List (S43)) (l1 : List Int) (a2 : Int) : Option (List Int) := impl_ClashOf.l0 k l0 a2 (([] : List Int)) l1 (l1.length : Int) 0
theorem impl_ClashOf.mono_l : ∀ k, (∀ y0 y1 y2 y3 y4 y5, LeO (impl_ClashOf.l0 k y0 y1 y2 y3 y4 y5) (impl_ClashOf.l0 (k + 1) y0 y1 y2 y3 y4 y5))
 | 0 => fun _ _ _ _ _ _ r h => by simp [impl_ClashOf.l0] at h
 | k + 1 => by
  have ih0 := impl_ClashOf.mono_l k
  ·intro y0 y1 y2 y3 y4 y5
   unfold impl_ClashOf.l0
   repeat' first
   | (with_reducible exact ih0 _ _ _ _ _ _)
   | (with_reducible exact LeO.refl _)
   | (with_reducible exact LeO.none _)
   | (with_reducible refine LeO.ite ?_ ?_)
   | (with_reducible refine LeO.bind ?_ (fun _ => ?_))
   | exact ih0 _ _ _ _ _ _
   | exact LeO.none _
   | refine LeO.ite ?_ ?_
   | refine LeO.bind ?_ (fun _ => ?_)
theorem impl_ClashOf.mono : ∀ a0 a1 a2 k, LeO (impl_ClashOf.f k a0 a1 a2) (impl_ClashOf.f (k + 1) a0 a1 a2) := by
 intro a0 a1 a2 k
 have ih0 := impl_ClashOf.mono_l k
 unfold impl_ClashOf.f
 repeat' first
   | (with_reducible exact ih0 _ _ _ _ _ _)
   | (with_reducible exact LeO.refl _)
   | (with_reducible exact LeO.none _)
   | (with_reducible refine LeO.ite ?_ ?_)
   | (with_reducible refine LeO.bind ?_ (fun _ => ?_))
   | exact ih0 _ _ _ _ _ _
   | exact LeO.none _
   | refine LeO.ite ?_ ?_
   | refine LeO.bind ?_ (fun _ => ?_)
set_option maxHeartbeats 8000000 in
set_option maxRecDepth 100000 in
theorem impl_ClashOf.calls (k : Nat) (A0 : Option Addr) (c0 : Nat) (l0 : List (S43)) (A1 : Option Addr) (c1 : Nat) (l1 : List Int) (a2 : Int) (r : List Int) (w : World) (hr0 : Kd.C k43 w A0 l0.length l0) (hc0 : l0.length ≤ c0) (hr1 : Kd.C (Kd.int .i64) w A1 l1.length l1) (hc1 : l1.length ≤ c1) (h : impl_ClashOf.f k l0 l1 a2 = some r) :
  Calls Try.prog 21 #[.slice A0 l0.length c0, .slice A1 l1.length c1, .int .i64 a2] w fun e w' => ∃ v0_ : Value, e = .returned (v0_) ∧ Kd.R (Kd.int .i64) 3 w' w.heap.size (fun _ => True) v0_ r ∧ Below w.heap.size w w' := by
 have HR0 := Aside0.mk hr0
 have HC0 := Aside0.mk hc0
 clear hr0 hc0
 have HR1 := Aside0.mk hr1
 have HC1 := Aside0.mk hc1
 clear hr1 hc1
 have HB := Aside0.mk (Below.refl w.heap.size w)
 have H : (impl_ClashOf.l0 k l0 a2 (([] : List Int)) l1 (l1.length : Int) 0) = some r := h
 clear h
 obtain ⟨y357, hy357⟩ : ∃ y_ : List Int, y_ = (([] : List Int)) := ⟨_, rfl⟩
 replace H : (impl_ClashOf.l0 k l0 a2 y357 l1 (l1.length : Int) 0) = some r := by first | (rw [hy357]; with_reducible exact H) | (have H2_ := (Option.bind_some _ _).symm.trans H; rw [hy357]; with_reducible exact H2_) | (have H2_ := (Option.bind_some _ _).symm.trans H; with_reducible exact H2_) | with_reducible exact H | (rw [hy357]; exact H) | exact H
 have Ny357 := Aside0.mk hy357
 clear hy357
 have H' := Aside0.mk H
 clear H
 go_enter Try.func21, Try.ntmps21
 go_wp2_with (first | ((with_reducible refine gate_dst (N := 11) rfl ?_); refine Kd.R_lit (Kd.int .i64) _ 3 ?hg (N := 11) ?hd (xs := ([] : List Int)) (inner := []) (ok := fun _ => True) (okp := fun _ => True) ?hr ?hp (fun _ hk => hk) trivial (Below.refl _ _) (Nat.le_refl _) (by simp) ?_; (case hd => rfl); (case hg => rfl); (case hr => first | (go_simp; done) | (go_simp; rfl)); (case hp => exact (Reps.none _ _)); intro v358 w4 ho5 hb hg_ hnew_; clear hg_ hnew_; (first | rw [← Ny357.out] at ho5 | (simp only [Int.reduceToNat] at ho5; rw [← Ny357.out] at ho5)); have HO359 := Aside0.mk (Kd.R_lower ho5 (below_size (zB HB))); replace HB := bS HB hb; clear hb ho5))
 go_loopg [7, 14] k (fun kq v7 v14 w' => ∃ (x7_1 : List Int) (x14_1 : Int), v14 = .int .i64 x14_1 ∧ Aside0 (impl_ClashOf.l0 kq l0 a2 x7_1 l1 (l1.length : Int) x14_1 = some r) ∧ Aside0 (kq ≤ k) ∧ Aside0 (Kd.R (Kd.int .i64) 3 w' w.heap.size (fun _ => True) v7 x7_1) ∧ Aside0 (Below w.heap.size w w'))
 case atStart => exact ⟨(y357), (0), zF, H', ⟨Nat.le_refl _⟩, ⟨zR HO359⟩, ⟨zB HB⟩⟩
 case round =>
  clear H'
  try clear c1
  try clear c2
  try clear p2
  obtain ⟨x7_1, x14_1, rfl, HA, HK1, HO_7, HB⟩ := hrel
  cases gk with
  | zero => exact absurd HA.out (by simp [impl_ClashOf.l0])
  | succ k1 =>
   have H := HA.out
   clear HA
   simp only [impl_ClashOf.l0] at H
   by_cases c6 : x14_1 < (l1.length : Int)
   ·rw [if_pos c6] at H
    have c6b0 : decide (x14_1 < (l1.length : Int)) = true := decide_eq_true c6
    clear c6
    obtain ⟨c7, H⟩ := ifS H
    have c7b0 : decide (0 ≤ x14_1) = true := decide_eq_true c7
    clear c7
    obtain ⟨c8, H⟩ := ifS H
    have c8b0 : decide (x14_1 < (l1.length : Int)) = true := decide_eq_true c8
    clear c8
    obtain ⟨t361, A9, H⟩ := bindS H
    by_cases c10 : t361 ≥ 0
    ·rw [if_pos c10] at H
     have c10b0 : decide (0 ≤ t361) = true := decide_eq_true c10
     clear c10
     by_cases c11 : t361 = a2
     ·rw [if_pos c11] at H
      have c11b0 : (t361 == a2) = true := beq_iff_eq.mpr c11
      have c11b1 : (t361 != a2) = false := bne_eq_false_iff_eq.mpr c11
      clear c11
      obtain ⟨t362, A12, H⟩ := bindS H
      by_cases c13 : t362 = true
      ·subst c13
       have H1 : (if x7_1.length < 17592186044416 then (impl_ClashOf.l0 k1 l0 a2 (x7_1 ++ [rd l1 x14_1]) l1 (l1.length : Int) (wrap64 (x14_1 + 1))) else (none)) = some r := by rw [if_pos rfl] at H; exact H
       clear H
       have H := H1
       clear H1
       obtain ⟨c14, H⟩ := ifS H
       have LMc14 := Aside0.mk c14
       clear c14
       obtain ⟨y363, hy363⟩ : ∃ y_ : List Int, y_ = (x7_1 ++ [rd l1 x14_1]) := ⟨_, rfl⟩
       replace H : (impl_ClashOf.l0 k1 l0 a2 y363 l1 (l1.length : Int) (wrap64 (x14_1 + 1))) = some r := by first | (rw [hy363]; with_reducible exact H) | (have H2_ := (Option.bind_some _ _).symm.trans H; rw [hy363]; with_reducible exact H2_) | (have H2_ := (Option.bind_some _ _).symm.trans H; with_reducible exact H2_) | with_reducible exact H | (rw [hy363]; exact H) | exact H
       have Ny363 := Aside0.mk hy363
       clear hy363
       have H' := Aside0.mk H
       clear H
       have p360 : 0 ≤ (x14_1 : Int) := zD
       have q360 : x14_1 < (l1.length : Int) := zD
       obtain ⟨ad360, e360, hx360_0⟩ := Kd.at_int HR1.out x14_1 p360 q360
       cases e360
       replace hx360_0 := hL HB hx360_0
       replace p360 := eq_true p360
       replace q360 := eq_true q360
       go_wp2_with (first | ((with_reducible refine gate_callee (f := 15) rfl ?_); refine goesL_ (some 20) rfl rfl Try.func15 (by kernel_rfl) rfl #[.slice A0 l0.length c0, .int .i64 (rd l1 x14_1)] rfl zG ?_; (with_reducible refine (impl_OwnerOf.calls _ _ l0 (rd l1 x14_1) t361 _ ?side1 ?side2 A9.out).mono ?_); (case side1 => exact cS HR0 HB); (case side2 => exact HC0.out); rintro e w15 ⟨rfl, hb⟩; refine ⟨_, rfl, ?_⟩; replace HO_7 := Aside0.mk (Kd.R_below (zR HO_7) hb); replace HB := bS HB hb; (try clear hb)) | (go_at_call 16; (with_reducible refine (impl_IsReserved.calls (rd l1 x14_1) true _ A12.out).mono ?_); rintro e w' ⟨rfl, ⟨nd, rfl⟩⟩) | ((with_reducible refine gate_builtin (b := .append) (xs := #[.tmp 32, .tmp 34]) rfl ?_); at_builtin; refine Kd.R_append (Kd.int .i64) (w0 := w) w.heap.size rfl (.tmp 32) (.tmp 34) 40 3 (.int .i64 0) 8 rfl Try.underlying40 info3 rfl (by decide) (by omega) u7 x7_1 (rd l1 x14_1) [.int .i64 (rd l1 x14_1)] (fun _ => True) (fun _ => False) rfl rfl ?aP (fun _ hk => hk.elim) ?aF ?aO ?aB ?aS ?aL ?_; (case aP => exact rfl); (case aB => exact (zB HB)); (case aF => exact (fun _ _ => trivial)); (case aO => exact (zR HO_7)); (case aS => exact (below_size (zB HB))); (case aL => have := LMc14.out; omega); intro v364 w16 ho hb hg hat; rw [← Ny363.out] at ho; replace HB := Aside0.mk (hb); have HO365 := Aside0.mk (ho); clear HO_7; clear ho hb hg hat))
       go_roundg k1
       case measure => have := HK1.out; omega
       case rel => exact ⟨(y363), (wrap64 (x14_1 + 1)), zF, H', ⟨by have := HK1.out; omega⟩, ⟨zR HO365⟩, ⟨zB HB⟩⟩
      ·replace c13 := Bool.eq_false_iff.mpr c13
       subst c13
       have H1 : (impl_ClashOf.l0 k1 l0 a2 x7_1 l1 (l1.length : Int) (wrap64 (x14_1 + 1))) = some r := by rw [if_neg (show ¬ (false = true) by decide)] at H; exact H
       clear H
       have H := H1
       clear H1
       have H' := Aside0.mk H
       clear H
       have p360 : 0 ≤ (x14_1 : Int) := zD
       have q360 : x14_1 < (l1.length : Int) := zD
       obtain ⟨ad360, e360, hx360_0⟩ := Kd.at_int HR1.out x14_1 p360 q360
       cases e360
       replace hx360_0 := hL HB hx360_0
       replace p360 := eq_true p360
       replace q360 := eq_true q360
       go_wp2_with (first | ((with_reducible refine gate_callee (f := 15) rfl ?_); refine goesL_ (some 20) rfl rfl Try.func15 (by kernel_rfl) rfl #[.slice A0 l0.length c0, .int .i64 (rd l1 x14_1)] rfl zG ?_; (with_reducible refine (impl_OwnerOf.calls _ _ l0 (rd l1 x14_1) t361 _ ?side1 ?side2 A9.out).mono ?_); (case side1 => exact cS HR0 HB); (case side2 => exact HC0.out); rintro e w17 ⟨rfl, hb⟩; refine ⟨_, rfl, ?_⟩; replace HO_7 := Aside0.mk (Kd.R_below (zR HO_7) hb); replace HB := bS HB hb; (try clear hb)) | (go_at_call 16; (with_reducible refine (impl_IsReserved.calls (rd l1 x14_1) false _ A12.out).mono ?_); rintro e w' ⟨rfl, ⟨nd, rfl⟩⟩))
       go_roundg k1
       case measure => have := HK1.out; omega
       case rel => exact ⟨(x7_1), (wrap64 (x14_1 + 1)), zF, H', ⟨by have := HK1.out; omega⟩, ⟨zR HO_7⟩, ⟨zB HB⟩⟩
     ·rw [if_neg c11] at H
      have c11b0 : (t361 == a2) = false := beq_eq_false_iff_ne.mpr c11
      have c11b1 : (t361 != a2) = true := bne_iff_ne.mpr c11
      obtain ⟨c18, H⟩ := ifS H
      have LMc18 := Aside0.mk c18
      clear c18
      obtain ⟨y366, hy366⟩ : ∃ y_ : List Int, y_ = (x7_1 ++ [rd l1 x14_1]) := ⟨_, rfl⟩
      replace H : (impl_ClashOf.l0 k1 l0 a2 y366 l1 (l1.length : Int) (wrap64 (x14_1 + 1))) = some r := by first | (rw [hy366]; with_reducible exact H) | (have H2_ := (Option.bind_some _ _).symm.trans H; rw [hy366]; with_reducible exact H2_) | (have H2_ := (Option.bind_some _ _).symm.trans H; with_reducible exact H2_) | with_reducible exact H | (rw [hy366]; exact H) | exact H
      have Ny366 := Aside0.mk hy366
      clear hy366
      have H' := Aside0.mk H
      clear H
      have p360 : 0 ≤ (x14_1 : Int) := zD
      have q360 : x14_1 < (l1.length : Int) := zD
      obtain ⟨ad360, e360, hx360_0⟩ := Kd.at_int HR1.out x14_1 p360 q360
      cases e360
      replace hx360_0 := hL HB hx360_0
      replace p360 := eq_true p360
      replace q360 := eq_true q360
      go_wp2_with (first | ((with_reducible refine gate_callee (f := 15) rfl ?_); refine goesL_ (some 20) rfl rfl Try.func15 (by kernel_rfl) rfl #[.slice A0 l0.length c0, .int .i64 (rd l1 x14_1)] rfl zG ?_; (with_reducible refine (impl_OwnerOf.calls _ _ l0 (rd l1 x14_1) t361 _ ?side1 ?side2 A9.out).mono ?_); (case side1 => exact cS HR0 HB); (case side2 => exact HC0.out); rintro e w19 ⟨rfl, hb⟩; refine ⟨_, rfl, ?_⟩; replace HO_7 := Aside0.mk (Kd.R_below (zR HO_7) hb); replace HB := bS HB hb; (try clear hb)) | ((with_reducible refine gate_builtin (b := .append) (xs := #[.tmp 32, .tmp 34]) rfl ?_); at_builtin; refine Kd.R_append (Kd.int .i64) (w0 := w) w.heap.size rfl (.tmp 32) (.tmp 34) 40 3 (.int .i64 0) 8 rfl Try.underlying40 info3 rfl (by decide) (by omega) u7 x7_1 (rd l1 x14_1) [.int .i64 (rd l1 x14_1)] (fun _ => True) (fun _ => False) rfl rfl ?aP (fun _ hk => hk.elim) ?aF ?aO ?aB ?aS ?aL ?_; (case aP => exact rfl); (case aB => exact (zB HB)); (case aF => exact (fun _ _ => trivial)); (case aO => exact (zR HO_7)); (case aS => exact (below_size (zB HB))); (case aL => have := LMc18.out; omega); intro v367 w20 ho hb hg hat; rw [← Ny366.out] at ho; replace HB := Aside0.mk (hb); have HO368 := Aside0.mk (ho); clear HO_7; clear ho hb hg hat))
      go_roundg k1
      case measure => have := HK1.out; omega
      case rel => exact ⟨(y366), (wrap64 (x14_1 + 1)), zF, H', ⟨by have := HK1.out; omega⟩, ⟨zR HO368⟩, ⟨zB HB⟩⟩
    ·rw [if_neg c10] at H
     have c10b0 : decide (0 ≤ t361) = false := decide_eq_false c10
     clear c10
     obtain ⟨t369, A21, H⟩ := bindS H
     by_cases c22 : t369 = true
     ·subst c22
      have H1 : (if x7_1.length < 17592186044416 then (impl_ClashOf.l0 k1 l0 a2 (x7_1 ++ [rd l1 x14_1]) l1 (l1.length : Int) (wrap64 (x14_1 + 1))) else (none)) = some r := by rw [if_pos rfl] at H; exact H
      clear H
      have H := H1
      clear H1
      obtain ⟨c23, H⟩ := ifS H
      have LMc23 := Aside0.mk c23
      clear c23
      obtain ⟨y370, hy370⟩ : ∃ y_ : List Int, y_ = (x7_1 ++ [rd l1 x14_1]) := ⟨_, rfl⟩
      replace H : (impl_ClashOf.l0 k1 l0 a2 y370 l1 (l1.length : Int) (wrap64 (x14_1 + 1))) = some r := by first | (rw [hy370]; with_reducible exact H) | (have H2_ := (Option.bind_some _ _).symm.trans H; rw [hy370]; with_reducible exact H2_) | (have H2_ := (Option.bind_some _ _).symm.trans H; with_reducible exact H2_) | with_reducible exact H | (rw [hy370]; exact H) | exact H
      have Ny370 := Aside0.mk hy370
      clear hy370
      have H' := Aside0.mk H
      clear H
      have p360 : 0 ≤ (x14_1 : Int) := zD
      have q360 : x14_1 < (l1.length : Int) := zD
      obtain ⟨ad360, e360, hx360_0⟩ := Kd.at_int HR1.out x14_1 p360 q360
      cases e360
      replace hx360_0 := hL HB hx360_0
      replace p360 := eq_true p360
      replace q360 := eq_true q360
      go_wp2_with (first | ((with_reducible refine gate_callee (f := 15) rfl ?_); refine goesL_ (some 20) rfl rfl Try.func15 (by kernel_rfl) rfl #[.slice A0 l0.length c0, .int .i64 (rd l1 x14_1)] rfl zG ?_; (with_reducible refine (impl_OwnerOf.calls _ _ l0 (rd l1 x14_1) t361 _ ?side1 ?side2 A9.out).mono ?_); (case side1 => exact cS HR0 HB); (case side2 => exact HC0.out); rintro e w24 ⟨rfl, hb⟩; refine ⟨_, rfl, ?_⟩; replace HO_7 := Aside0.mk (Kd.R_below (zR HO_7) hb); replace HB := bS HB hb; (try clear hb)) | (go_at_call 16; (with_reducible refine (impl_IsReserved.calls (rd l1 x14_1) true _ A21.out).mono ?_); rintro e w' ⟨rfl, ⟨nd, rfl⟩⟩) | ((with_reducible refine gate_builtin (b := .append) (xs := #[.tmp 32, .tmp 34]) rfl ?_); at_builtin; refine Kd.R_append (Kd.int .i64) (w0 := w) w.heap.size rfl (.tmp 32) (.tmp 34) 40 3 (.int .i64 0) 8 rfl Try.underlying40 info3 rfl (by decide) (by omega) u7 x7_1 (rd l1 x14_1) [.int .i64 (rd l1 x14_1)] (fun _ => True) (fun _ => False) rfl rfl ?aP (fun _ hk => hk.elim) ?aF ?aO ?aB ?aS ?aL ?_; (case aP => exact rfl); (case aB => exact (zB HB)); (case aF => exact (fun _ _ => trivial)); (case aO => exact (zR HO_7)); (case aS => exact (below_size (zB HB))); (case aL => have := LMc23.out; omega); intro v371 w25 ho hb hg hat; rw [← Ny370.out] at ho; replace HB := Aside0.mk (hb); have HO372 := Aside0.mk (ho); clear HO_7; clear ho hb hg hat))
      go_roundg k1
      case measure => have := HK1.out; omega
      case rel => exact ⟨(y370), (wrap64 (x14_1 + 1)), zF, H', ⟨by have := HK1.out; omega⟩, ⟨zR HO372⟩, ⟨zB HB⟩⟩
     ·replace c22 := Bool.eq_false_iff.mpr c22
      subst c22
      have H1 : (impl_ClashOf.l0 k1 l0 a2 x7_1 l1 (l1.length : Int) (wrap64 (x14_1 + 1))) = some r := by rw [if_neg (show ¬ (false = true) by decide)] at H; exact H
      clear H
      have H := H1
      clear H1
      have H' := Aside0.mk H
      clear H
      have p360 : 0 ≤ (x14_1 : Int) := zD
      have q360 : x14_1 < (l1.length : Int) := zD
      obtain ⟨ad360, e360, hx360_0⟩ := Kd.at_int HR1.out x14_1 p360 q360
      cases e360
      replace hx360_0 := hL HB hx360_0
      replace p360 := eq_true p360
      replace q360 := eq_true q360
      go_wp2_with (first | ((with_reducible refine gate_callee (f := 15) rfl ?_); refine goesL_ (some 20) rfl rfl Try.func15 (by kernel_rfl) rfl #[.slice A0 l0.length c0, .int .i64 (rd l1 x14_1)] rfl zG ?_; (with_reducible refine (impl_OwnerOf.calls _ _ l0 (rd l1 x14_1) t361 _ ?side1 ?side2 A9.out).mono ?_); (case side1 => exact cS HR0 HB); (case side2 => exact HC0.out); rintro e w26 ⟨rfl, hb⟩; refine ⟨_, rfl, ?_⟩; replace HO_7 := Aside0.mk (Kd.R_below (zR HO_7) hb); replace HB := bS HB hb; (try clear hb)) | (go_at_call 16; (with_reducible refine (impl_IsReserved.calls (rd l1 x14_1) false _ A21.out).mono ?_); rintro e w' ⟨rfl, ⟨nd, rfl⟩⟩))
      go_roundg k1
      case measure => have := HK1.out; omega
      case rel => exact ⟨(x7_1), (wrap64 (x14_1 + 1)), zF, H', ⟨by have := HK1.out; omega⟩, ⟨zR HO_7⟩, ⟨zB HB⟩⟩
   ·rw [if_neg c6] at H
    have c6b0 : decide (x14_1 < (l1.length : Int)) = false := decide_eq_false c6
    clear c6
    obtain rfl := Option.some.inj H
    go_wp2
    go_ret
    exact ⟨_, zE, by (with_reducible repeat (first | apply Kd.R_alloc | apply Kd.R_drewN | apply Kd.R_drew)); exact HO_7.out, zB HB⟩

/-! ### spec_LiveTags: function 22 -/
def spec_LiveTags.l0 : Nat → List (S43) → List Int → Int → Option (List Int)
 | 0, _, _, _ => none
 | k + 1, x0, x3, x4 => if x4 < (x0.length : Int) then (if 0 ≤ x4 then (if ((rd_T43 x0 x4).f2 = true) then (spec_LiveTags.l0 k x0 x3 (wrap64 (x4 + 1))) else (if x3.length < 17592186044416 then (spec_LiveTags.l0 k x0 (x3 ++ [(rd_T43 x0 x4).f0]) (wrap64 (x4 + 1))) else (none))) else (none)) else (some x3)
def spec_LiveTags.f (k : Nat) (l0 : List (S43)) : Option (List Int) := spec_LiveTags.l0 k l0 (([] : List Int)) 0
theorem spec_LiveTags.mono_l : ∀ k, (∀ y0 y1 y2, LeO (spec_LiveTags.l0 k y0 y1 y2) (spec_LiveTags.l0 (k + 1) y0 y1 y2))
 | 0 => fun _ _ _ r h => by simp [spec_LiveTags.l0] at h
 | k + 1 => by
  have ih0 := spec_LiveTags.mono_l k
  ·intro y0 y1 y2
   unfold spec_LiveTags.l0
   repeat' first
   | (with_reducible exact ih0 _ _ _)
   | (with_reducible exact LeO.refl _)
   | (with_reducible exact LeO.none _)
   | (with_reducible refine LeO.ite ?_ ?_)
   | (with_reducible refine LeO.bind ?_ (fun _ => ?_))
   | exact ih0 _ _ _
   | exact LeO.none _
   | refine LeO.ite ?_ ?_
   | refine LeO.bind ?_ (fun _ => ?_)
theorem spec_LiveTags.mono : ∀ a0 k, LeO (spec_LiveTags.f k a0) (spec_LiveTags.f (k + 1) a0) := by
 intro a0 k
 have ih0 := spec_LiveTags.mono_l k
 unfold spec_LiveTags.f
 repeat' first
   | (with_reducible exact ih0 _ _ _)
   | (with_reducible exact LeO.refl _)
   | (with_reducible exact LeO.none _)
   | (with_reducible refine LeO.ite ?_ ?_)
   | (with_reducible refine LeO.bind ?_ (fun _ => ?_))
   | exact ih0 _ _ _
   | exact LeO.none _
   | refine LeO.ite ?_ ?_
   | refine LeO.bind ?_ (fun _ => ?_)
set_option maxHeartbeats 8000000 in
set_option maxRecDepth 100000 in
theorem spec_LiveTags.calls (k : Nat) (A0 : Option Addr) (c0 : Nat) (l0 : List (S43)) (r : List Int) (w : World) (hr0 : Kd.C k43 w A0 l0.length l0) (hc0 : l0.length ≤ c0) (h : spec_LiveTags.f k l0 = some r) :
  Calls Try.prog 22 #[.slice A0 l0.length c0] w fun e w' => ∃ v0_ : Value, e = .returned (v0_) ∧ Kd.R (Kd.int .i64) 3 w' w.heap.size (fun _ => True) v0_ r ∧ Below w.heap.size w w' := by
 have HR0 := Aside0.mk hr0
 have HC0 := Aside0.mk hc0
 clear hr0 hc0
 have HB := Aside0.mk (Below.refl w.heap.size w)
 have H : (spec_LiveTags.l0 k l0 (([] : List Int)) 0) = some r := h
 clear h
 obtain ⟨y373, hy373⟩ : ∃ y_ : List Int, y_ = (([] : List Int)) := ⟨_, rfl⟩
 replace H : (spec_LiveTags.l0 k l0 y373 0) = some r := by first | (rw [hy373]; with_reducible exact H) | (have H2_ := (Option.bind_some _ _).symm.trans H; rw [hy373]; with_reducible exact H2_) | (have H2_ := (Option.bind_some _ _).symm.trans H; with_reducible exact H2_) | with_reducible exact H | (rw [hy373]; exact H) | exact H
 have Ny373 := Aside0.mk hy373
 clear hy373
 have H' := Aside0.mk H
 clear H
 go_enter Try.func22, Try.ntmps22
 go_wp2_with (first | ((with_reducible refine gate_dst (N := 5) rfl ?_); refine Kd.R_lit (Kd.int .i64) _ 3 ?hg (N := 5) ?hd (xs := ([] : List Int)) (inner := []) (ok := fun _ => True) (okp := fun _ => True) ?hr ?hp (fun _ hk => hk) trivial (Below.refl _ _) (Nat.le_refl _) (by simp) ?_; (case hd => rfl); (case hg => rfl); (case hr => first | (go_simp; done) | (go_simp; rfl)); (case hp => exact (Reps.none _ _)); intro v374 w2 ho3 hb hg_ hnew_; clear hg_ hnew_; (first | rw [← Ny373.out] at ho3 | (simp only [Int.reduceToNat] at ho3; rw [← Ny373.out] at ho3)); have HO375 := Aside0.mk (Kd.R_lower ho3 (below_size (zB HB))); replace HB := bS HB hb; clear hb ho3))
 go_loopg [3, 4] k (fun kq v3 v4 w' => ∃ (x3_1 : List Int) (x4_1 : Int), v4 = .int .i64 x4_1 ∧ Aside0 (spec_LiveTags.l0 kq l0 x3_1 x4_1 = some r) ∧ Aside0 (kq ≤ k) ∧ Aside0 (Kd.R (Kd.int .i64) 3 w' w.heap.size (fun _ => True) v3 x3_1) ∧ Aside0 (Below w.heap.size w w'))
 case atStart => exact ⟨(y373), (0), zF, H', ⟨Nat.le_refl _⟩, ⟨zR HO375⟩, ⟨zB HB⟩⟩
 case round =>
  clear H'
  try clear c2
  try clear p2
  obtain ⟨x3_1, x4_1, rfl, HA, HK1, HO_3, HB⟩ := hrel
  cases gk with
  | zero => exact absurd HA.out (by simp [spec_LiveTags.l0])
  | succ k1 =>
   have H := HA.out
   clear HA
   simp only [spec_LiveTags.l0] at H
   by_cases c4 : x4_1 < (l0.length : Int)
   ·rw [if_pos c4] at H
    have c4b0 : decide (x4_1 < (l0.length : Int)) = true := decide_eq_true c4
    clear c4
    obtain ⟨c5, H⟩ := ifS H
    have c5b0 : decide (0 ≤ x4_1) = true := decide_eq_true c5
    clear c5
    obtain ⟨bq6, hbq6⟩ : ∃ b_ : Bool, b_ = ((rd_T43 l0 x4_1).f2) := ⟨_, rfl⟩
    replace H : (if (bq6 = true) then (spec_LiveTags.l0 k1 l0 x3_1 (wrap64 (x4_1 + 1))) else (if x3_1.length < 17592186044416 then (spec_LiveTags.l0 k1 l0 (x3_1 ++ [(rd_T43 l0 x4_1).f0]) (wrap64 (x4_1 + 1))) else (none))) = some r := by rw [← hbq6] at H; exact H
    have Nbq6 := Aside0.mk hbq6
    clear hbq6
    by_cases c7 : (bq6 = true)
    ·subst c7
     have H1 : (spec_LiveTags.l0 k1 l0 x3_1 (wrap64 (x4_1 + 1))) = some r := by rw [if_pos rfl] at H; exact H
     clear H
     have H := H1
     clear H1
     have H' := Aside0.mk H
     clear H
     have p376 : 0 ≤ (x4_1 : Int) := zD
     have q376 : x4_1 < (l0.length : Int) := zD
     obtain ⟨ad376, e376, hx376_0, hx376_1, hx376_2⟩ := at_T43 HR0.out x4_1 p376 q376
     (try rw [← Nbq6.out] at hx376_2)
     cases e376
     replace hx376_0 := hL HB hx376_0
     replace hx376_1 := hL HB hx376_1
     replace hx376_2 := hL HB hx376_2
     replace p376 := eq_true p376
     replace q376 := eq_true q376
     go_wp2
     go_roundg k1
     case measure => have := HK1.out; omega
     case rel => exact ⟨(x3_1), (wrap64 (x4_1 + 1)), zF, H', ⟨by have := HK1.out; omega⟩, ⟨zR HO_3⟩, ⟨zB HB⟩⟩
    ·replace c7 := Bool.eq_false_iff.mpr c7
     subst c7
     have H1 : (if x3_1.length < 17592186044416 then (spec_LiveTags.l0 k1 l0 (x3_1 ++ [(rd_T43 l0 x4_1).f0]) (wrap64 (x4_1 + 1))) else (none)) = some r := by rw [if_neg (show ¬ (false = true) by decide)] at H; exact H
     clear H
     have H := H1
     clear H1
     obtain ⟨c8, H⟩ := ifS H
     have LMc8 := Aside0.mk c8
     clear c8
     obtain ⟨y378, hy378⟩ : ∃ y_ : List Int, y_ = (x3_1 ++ [(rd_T43 l0 x4_1).f0]) := ⟨_, rfl⟩
     replace H : (spec_LiveTags.l0 k1 l0 y378 (wrap64 (x4_1 + 1))) = some r := by first | (rw [hy378]; with_reducible exact H) | (have H2_ := (Option.bind_some _ _).symm.trans H; rw [hy378]; with_reducible exact H2_) | (have H2_ := (Option.bind_some _ _).symm.trans H; with_reducible exact H2_) | with_reducible exact H | (rw [hy378]; exact H) | exact H
     have Ny378 := Aside0.mk hy378
     clear hy378
     have H' := Aside0.mk H
     clear H
     have p376 : 0 ≤ (x4_1 : Int) := zD
     have q376 : x4_1 < (l0.length : Int) := zD
     obtain ⟨ad376, e376, hx376_0, hx376_1, hx376_2⟩ := at_T43 HR0.out x4_1 p376 q376
     (try rw [← Nbq6.out] at hx376_2)
     cases e376
     replace hx376_0 := hL HB hx376_0
     replace hx376_1 := hL HB hx376_1
     replace hx376_2 := hL HB hx376_2
     replace p376 := eq_true p376
     replace q376 := eq_true q376
     have p377 : 0 ≤ (x4_1 : Int) := zD
     have q377 : x4_1 < (l0.length : Int) := zD
     obtain ⟨ad377, e377, hx377_0, hx377_1, hx377_2⟩ := at_T43 HR0.out x4_1 p377 q377
     (try rw [← Nbq6.out] at hx377_2)
     obtain rfl : ad376 = ad377 := (by injection e377)
     replace hx377_0 := hL HB hx377_0
     replace hx377_1 := hL HB hx377_1
     replace hx377_2 := hL HB hx377_2
     replace p377 := eq_true p377
     replace q377 := eq_true q377
     go_wp2_with (first | ((with_reducible refine gate_builtin (b := .append) (xs := #[.tmp 18, .tmp 24]) rfl ?_); at_builtin; refine Kd.R_append (Kd.int .i64) (w0 := w) w.heap.size rfl (.tmp 18) (.tmp 24) 40 3 (.int .i64 0) 8 rfl Try.underlying40 info3 rfl (by decide) (by omega) u3 x3_1 ((rd_T43 l0 x4_1).f0) [.int .i64 ((rd_T43 l0 x4_1).f0)] (fun _ => True) (fun _ => False) rfl rfl ?aP (fun _ hk => hk.elim) ?aF ?aO ?aB ?aS ?aL ?_; (case aP => exact rfl); (case aB => exact (zB HB)); (case aF => exact (fun _ _ => trivial)); (case aO => exact (zR HO_3)); (case aS => exact (below_size (zB HB))); (case aL => have := LMc8.out; omega); intro v379 w9 ho hb hg hat; rw [← Ny378.out] at ho; replace HB := Aside0.mk (hb); have HO380 := Aside0.mk (ho); clear HO_3; clear ho hb hg hat))
     go_roundg k1
     case measure => have := HK1.out; omega
     case rel => exact ⟨(y378), (wrap64 (x4_1 + 1)), zF, H', ⟨by have := HK1.out; omega⟩, ⟨zR HO380⟩, ⟨zB HB⟩⟩
   ·rw [if_neg c4] at H
    have c4b0 : decide (x4_1 < (l0.length : Int)) = false := decide_eq_false c4
    clear c4
    obtain rfl := Option.some.inj H
    go_wp2
    go_ret
    exact ⟨_, zE, by (with_reducible repeat (first | apply Kd.R_alloc | apply Kd.R_drewN | apply Kd.R_drew)); exact HO_3.out, zB HB⟩

end Go.Proofs.Ytgbfbdeeaogigaa.PFnRegistry
