-- WRITTEN by pp.py, this session's own wrapper around the print; not trusted: Lean checks it
import Derived.Test.YtbahcefcoplmpaaPFnExactAddGreasex0
import Derived.Test.YtbahcefcoplmpaaPFnExactAddGreasex1
namespace Go.Proofs.Ytbahcefcoplmpaa.PFnExactAddGrease
open Go.RowKit Go.Proofs.Ytbahcefcoplmpaa.Hw Go.Proofs.YtbahcefcoplmpaaW.PrintWords Go.Proofs.YtbahcefcoplmpaaW.PrintLast Go.Proofs.YtbahcefcoplmpaaW.PrintMore
attribute [local go_sem] max2_int min2_int max_two min_two max_three min_three max_four min_four   -- for this text's walks alone
set_option linter.unusedVariables false
set_option linter.unusedSimpArgs false
set_option linter.unusedSectionVars false

/-! ### spec_l11Copy: function 27 -/
def spec_l11Copy.f (k : Nat) (l0 : List (S46)) : Option ((List (S46))) := (spec_TagsOf.f k l0).bind fun t138 => ((spec_KnownOf.f k l0 t138).bind fun t141 => (some t141))
theorem spec_l11Copy.mono : ∀ a0 k, LeO (spec_l11Copy.f k a0) (spec_l11Copy.f (k + 1) a0) := by
 intro a0 k
 unfold spec_l11Copy.f
 repeat' first
   | (with_reducible exact spec_KnownOf.mono _ _ _)
   | (with_reducible exact spec_TagsOf.mono _ _)
   | (with_reducible exact LeO.refl _)
   | (with_reducible exact LeO.none _)
   | (with_reducible refine LeO.ite ?_ ?_)
   | (with_reducible refine LeO.bind ?_ (fun _ => ?_))
   | exact spec_KnownOf.mono _ _ _
   | exact spec_TagsOf.mono _ _
   | exact LeO.none _
   | refine LeO.ite ?_ ?_
   | refine LeO.bind ?_ (fun _ => ?_)
set_option maxHeartbeats 8000000 in
set_option maxRecDepth 100000 in
theorem spec_l11Copy.calls (k : Nat) (A0 : Option Addr) (c0 : Nat) (l0 : List (S46)) (r : List (S46)) (w : World) (hr0 : Kd.C k46 w A0 l0.length l0) (hc0 : l0.length ≤ c0) (h : spec_l11Copy.f k l0 = some r) :
  Calls Try.prog 27 #[.slice A0 l0.length c0] w fun e w' => ∃ v0_ : Value, e = .returned (v0_) ∧ Kd.S k46 46 w' w.heap.size (fun _ => True) v0_ r ∧ Below w.heap.size w w' := by
 have HR0 := Aside0.mk hr0
 have HC0 := Aside0.mk hc0
 clear hr0 hc0
 have HB := Aside0.mk (Below.refl w.heap.size w)
 have H : ((spec_TagsOf.f k l0).bind fun t138 => ((spec_KnownOf.f k l0 t138).bind fun t141 => (some t141))) = some r := h
 clear h
 obtain ⟨t138, A2, H⟩ := bindS H
 obtain ⟨t141, A3, H⟩ := bindS H
 obtain rfl := Option.some.inj H
 go_enter Try.func27, Try.ntmps27
 go_wp2_with (first | ((with_reducible refine gate_callee (f := 57) rfl ?_); refine goesL_ (some 5) rfl rfl Try.func57 (by kernel_rfl) rfl #[.slice A0 l0.length c0] rfl zG ?_; (with_reducible refine (spec_TagsOf.calls k _ _ l0 t138 _ ?side1 ?side2 A2.out).mono ?_); (case side1 => exact cT HR0); (case side2 => exact HC0.out); rintro e w4 ⟨v139, rfl, ho0, hb⟩; refine ⟨_, rfl, ?_⟩; have HO140 := Aside0.mk (Kd.R_lower ho0 (below_size (zB HB))); replace HB := bS HB hb; (try clear hb); (try clear ho0); obtain ⟨Ao5, co5, eo5⟩ := Kd.R_slice HO140.out; subst eo5) | ((with_reducible refine gate_callee (f := 56) rfl ?_); refine goesL_ (some 6) rfl rfl Try.func56 (by kernel_rfl) rfl #[.slice A0 l0.length c0, .slice Ao5 t138.length co5] rfl zG ?_; (with_reducible refine (spec_KnownOf.calls k _ _ l0 _ _ t138 t141 _ ?side1 ?side2 ?side3 ?side4 A3.out).mono ?_); (case side1 => exact cS HR0 HB); (case side2 => exact HC0.out); (case side3 => repeat (first | exact (Kd.R_reads' HO140.out).2.2 | (with_reducible refine Kd.C_alloc ?_ _) | (with_reducible refine Kd.C_drewN ?_ _) | (with_reducible refine Kd.C_drew ?_))); (case side4 => exact (Kd.R_reads' HO140.out).2.1); rintro e w6 ⟨v142, rfl, ho0, hb⟩; refine ⟨_, rfl, ?_⟩; have HO143 := Aside0.mk (Kd.S_lower (Kd.S_new' ho0 (Kd.R_lt (zR HO140))) (below_size (zB HB))); replace HO140 := Aside0.mk (Kd.R_below (zR HO140) hb); replace HB := bS HB hb; (try clear hb); (try clear ho0)))
 go_ret
 exact ⟨_, zE, by (with_reducible repeat (first | apply Kd.S_alloc | apply Kd.S_drewN | apply Kd.S_drew)); exact Kd.S_mono HO143.out (fun _ hk => trivial), zB HB⟩

/-! ### spec_ExtOf: function 29 -/
def spec_ExtOf.l0 : Nat → List (S46) → Int → Int → Option (Int)
 | 0, _, _, _ => none
 | k + 1, x0, x1, x5 => if x5 < (x0.length : Int) then (if 0 ≤ x5 then (if ((rd_T46 x0 x5).f0) = x1 then (some x5) else (spec_ExtOf.l0 k x0 x1 (wrap64 (x5 + 1)))) else (none)) else (some (-1))
def spec_ExtOf.f (k : Nat) (l0 : List (S46)) (a1 : Int) : Option (Int) := spec_ExtOf.l0 k l0 a1 0
theorem spec_ExtOf.mono_l : ∀ k, (∀ y0 y1 y2, LeO (spec_ExtOf.l0 k y0 y1 y2) (spec_ExtOf.l0 (k + 1) y0 y1 y2))
 | 0 => fun _ _ _ r h => by simp [spec_ExtOf.l0] at h
 | k + 1 => by
  have ih0 := spec_ExtOf.mono_l k
  ·intro y0 y1 y2
   unfold spec_ExtOf.l0
   repeat' first
   | (with_reducible exact ih0 _ _ _)
   | (with_reducible exact LeO.refl _)
   | (with_reducible exact LeO.none _)
   | (with_reducible refine LeO.ite ?_ ?_)
   | (with_reducible refine LeO.bind ?_ (fun _ => ?_))
   | exact ih0 _ _ _
   | exact LeO.none _
   | refine LeO.ite ?_ ?_
   | refine LeO.bind ?_ (fun _ => ?_)
theorem spec_ExtOf.mono : ∀ a0 a1 k, LeO (spec_ExtOf.f k a0 a1) (spec_ExtOf.f (k + 1) a0 a1) := by
 intro a0 a1 k
 have ih0 := spec_ExtOf.mono_l k
 unfold spec_ExtOf.f
 repeat' first
   | (with_reducible exact ih0 _ _ _)
   | (with_reducible exact LeO.refl _)
   | (with_reducible exact LeO.none _)
   | (with_reducible refine LeO.ite ?_ ?_)
   | (with_reducible refine LeO.bind ?_ (fun _ => ?_))
   | exact ih0 _ _ _
   | exact LeO.none _
   | refine LeO.ite ?_ ?_
   | refine LeO.bind ?_ (fun _ => ?_)
set_option maxHeartbeats 8000000 in
set_option maxRecDepth 100000 in
theorem spec_ExtOf.calls (k : Nat) (A0 : Option Addr) (c0 : Nat) (l0 : List (S46)) (a1 : Int) (r : Int) (w : World) (hr0 : Kd.C k46 w A0 l0.length l0) (hc0 : l0.length ≤ c0) (h : spec_ExtOf.f k l0 a1 = some r) :
  Calls Try.prog 29 #[.slice A0 l0.length c0, .int .i64 a1] w fun e w' => e = .returned (.int .i64 r) ∧ Drawn0 w w' := by
 have HR0 := Aside0.mk hr0
 have HC0 := Aside0.mk hc0
 clear hr0 hc0
 have H : (spec_ExtOf.l0 k l0 a1 0) = some r := h
 clear h
 have H' := Aside0.mk H
 clear H
 go_enter Try.func29, Try.ntmps29
 go_wp2
 go_loopg [5] k (fun kq v5 w' => ∃ (x5_1 : Int), v5 = .int .i64 x5_1 ∧ Aside0 (spec_ExtOf.l0 kq l0 a1 x5_1 = some r) ∧ Aside0 (kq ≤ k) ∧ Drawn0 w w')
 case atStart => exact ⟨(0), zF, H', ⟨Nat.le_refl _⟩, by repeat (first | exact Drawn0.refl _ | apply Drawn0.step)⟩
 case round =>
  clear H'
  try clear c2
  try clear p2
  obtain ⟨x5_1, rfl, HA, HK1, ⟨m1, rfl⟩⟩ := hrel
  cases gk with
  | zero => exact absurd HA.out (by simp [spec_ExtOf.l0])
  | succ k1 =>
   have H := HA.out
   clear HA
   simp only [spec_ExtOf.l0] at H
   by_cases c3 : x5_1 < (l0.length : Int)
   ·rw [if_pos c3] at H
    have c3b0 : decide (x5_1 < (l0.length : Int)) = true := decide_eq_true c3
    clear c3
    obtain ⟨c4, H⟩ := ifS H
    have c4b0 : decide (0 ≤ x5_1) = true := decide_eq_true c4
    clear c4
    by_cases c5 : ((rd_T46 l0 x5_1).f0) = a1
    ·rw [if_pos c5] at H
     have c5b0 : (((rd_T46 l0 x5_1).f0) == a1) = true := beq_iff_eq.mpr c5
     have c5b1 : (((rd_T46 l0 x5_1).f0) != a1) = false := bne_eq_false_iff_eq.mpr c5
     clear c5
     obtain rfl := Option.some.inj H
     have p144 : 0 ≤ (x5_1 : Int) := zD
     have q144 : x5_1 < (l0.length : Int) := zD
     obtain ⟨ad144, A144_1, c144_1, e144, hx144_0, hx144_1, hl144_1, hi144_1⟩ := at_T46 HR0.out x5_1 p144 q144
     cases e144
     have HR144_1 := Aside0.mk hi144_1
     have HC144_1 := Aside0.mk hl144_1
     clear hi144_1 hl144_1
     replace p144 := eq_true p144
     replace q144 := eq_true q144
     go_wp2
     go_ret
     exact ⟨by first | rfl | (simp; done) | (simp [*]; done), by repeat (first | exact Drawn0.refl _ | apply Drawn0.step)⟩
    ·rw [if_neg c5] at H
     have c5b0 : (((rd_T46 l0 x5_1).f0) == a1) = false := beq_eq_false_iff_ne.mpr c5
     have c5b1 : (((rd_T46 l0 x5_1).f0) != a1) = true := bne_iff_ne.mpr c5
     have H' := Aside0.mk H
     clear H
     have p144 : 0 ≤ (x5_1 : Int) := zD
     have q144 : x5_1 < (l0.length : Int) := zD
     obtain ⟨ad144, A144_1, c144_1, e144, hx144_0, hx144_1, hl144_1, hi144_1⟩ := at_T46 HR0.out x5_1 p144 q144
     cases e144
     have HR144_1 := Aside0.mk hi144_1
     have HC144_1 := Aside0.mk hl144_1
     clear hi144_1 hl144_1
     replace p144 := eq_true p144
     replace q144 := eq_true q144
     go_wp2
     go_roundg k1
     case measure => have := HK1.out; omega
     case rel => exact ⟨(wrap64 (x5_1 + 1)), zF, H', ⟨by have := HK1.out; omega⟩, by repeat (first | exact Drawn0.refl _ | apply Drawn0.step)⟩
   ·rw [if_neg c3] at H
    have c3b0 : decide (x5_1 < (l0.length : Int)) = false := decide_eq_false c3
    clear c3
    obtain rfl := Option.some.inj H
    go_wp2
    go_ret
    exact ⟨by first | rfl | (simp; done) | (simp [*]; done), by repeat (first | exact Drawn0.refl _ | apply Drawn0.step)⟩

/-! ### spec_l9Byte: function 59 -/
def spec_l9Byte.l0 : Nat → List Int → Int → Option (Bool)
 | 0, _, _ => none
 | k + 1, x0, x3 => if x3 < (x0.length : Int) then (if 0 ≤ x3 then ((spec_l1In.f (rd x0 x3) 0 255).bind fun t146 => (if t146 = true then (spec_l9Byte.l0 k x0 (wrap64 (x3 + 1))) else (some false))) else (none)) else (some true)
def spec_l9Byte.f (k : Nat) (l0 : List Int) : Option (Bool) := spec_l9Byte.l0 k l0 0
theorem spec_l9Byte.mono_l : ∀ k, (∀ y0 y1, LeO (spec_l9Byte.l0 k y0 y1) (spec_l9Byte.l0 (k + 1) y0 y1))
 | 0 => fun _ _ r h => by simp [spec_l9Byte.l0] at h
 | k + 1 => by
  have ih0 := spec_l9Byte.mono_l k
  ·intro y0 y1
   unfold spec_l9Byte.l0
   repeat' first
   | (with_reducible exact ih0 _ _)
   | (with_reducible exact LeO.refl _)
   | (with_reducible exact LeO.none _)
   | (with_reducible refine LeO.ite ?_ ?_)
   | (with_reducible refine LeO.bind ?_ (fun _ => ?_))
   | exact ih0 _ _
   | exact LeO.none _
   | refine LeO.ite ?_ ?_
   | refine LeO.bind ?_ (fun _ => ?_)
theorem spec_l9Byte.mono : ∀ a0 k, LeO (spec_l9Byte.f k a0) (spec_l9Byte.f (k + 1) a0) := by
 intro a0 k
 have ih0 := spec_l9Byte.mono_l k
 unfold spec_l9Byte.f
 repeat' first
   | (with_reducible exact ih0 _ _)
   | (with_reducible exact LeO.refl _)
   | (with_reducible exact LeO.none _)
   | (with_reducible refine LeO.ite ?_ ?_)
   | (with_reducible refine LeO.bind ?_ (fun _ => ?_))
   | exact ih0 _ _
   | exact LeO.none _
   | refine LeO.ite ?_ ?_
   | refine LeO.bind ?_ (fun _ => ?_)
set_option maxHeartbeats 8000000 in
set_option maxRecDepth 100000 in
theorem spec_l9Byte.calls (k : Nat) (A0 : Option Addr) (c0 : Nat) (l0 : List Int) (r : Bool) (w : World) (hr0 : Kd.C (Kd.int .i64) w A0 l0.length l0) (hc0 : l0.length ≤ c0) (h : spec_l9Byte.f k l0 = some r) :
  Calls Try.prog 59 #[.slice A0 l0.length c0] w fun e w' => e = .returned (.bool r) ∧ Drawn0 w w' := by
 have HR0 := Aside0.mk hr0
 have HC0 := Aside0.mk hc0
 clear hr0 hc0
 have H : (spec_l9Byte.l0 k l0 0) = some r := h
 clear h
 have H' := Aside0.mk H
 clear H
 go_enter Try.func59, Try.ntmps59
 go_wp2
 go_loopg [3] k (fun kq v3 w' => ∃ (x3_1 : Int), v3 = .int .i64 x3_1 ∧ Aside0 (spec_l9Byte.l0 kq l0 x3_1 = some r) ∧ Aside0 (kq ≤ k) ∧ Drawn0 w w')
 case atStart => exact ⟨(0), zF, H', ⟨Nat.le_refl _⟩, by repeat (first | exact Drawn0.refl _ | apply Drawn0.step)⟩
 case round =>
  clear H'
  obtain ⟨x3_1, rfl, HA, HK1, ⟨m1, rfl⟩⟩ := hrel
  cases gk with
  | zero => exact absurd HA.out (by simp [spec_l9Byte.l0])
  | succ k1 =>
   have H := HA.out
   clear HA
   simp only [spec_l9Byte.l0] at H
   by_cases c2 : x3_1 < (l0.length : Int)
   ·rw [if_pos c2] at H
    have c2b0 : decide (x3_1 < (l0.length : Int)) = true := decide_eq_true c2
    clear c2
    obtain ⟨c3, H⟩ := ifS H
    have c3b0 : decide (0 ≤ x3_1) = true := decide_eq_true c3
    clear c3
    obtain ⟨t146, A4, H⟩ := bindS H
    by_cases c5 : t146 = true
    ·subst c5
     have H1 : (spec_l9Byte.l0 k1 l0 (wrap64 (x3_1 + 1))) = some r := by rw [if_pos rfl] at H; exact H
     clear H
     have H := H1
     clear H1
     have H' := Aside0.mk H
     clear H
     have p145 : 0 ≤ (x3_1 : Int) := zD
     have q145 : x3_1 < (l0.length : Int) := zD
     obtain ⟨ad145, e145, hx145_0⟩ := Kd.at_int HR0.out x3_1 p145 q145
     cases e145
     replace p145 := eq_true p145
     replace q145 := eq_true q145
     go_wp2_with (first | ((with_reducible refine gate_callee (f := 58) rfl ?_); refine goesL_ (some 14) rfl rfl Try.func58 (by kernel_rfl) rfl #[.int .i64 (rd l0 x3_1), .int .i64 0, .int .i64 255] rfl zG ?_; (with_reducible refine (spec_l1In.calls (rd l0 x3_1) 0 255 true _ A4.out).mono ?_); rintro e w' ⟨rfl, ⟨nd, rfl⟩⟩; refine ⟨_, rfl, ?_⟩))
     go_roundg k1
     case measure => have := HK1.out; omega
     case rel => exact ⟨(wrap64 (x3_1 + 1)), zF, H', ⟨by have := HK1.out; omega⟩, by repeat (first | exact Drawn0.refl _ | apply Drawn0.step)⟩
    ·replace c5 := Bool.eq_false_iff.mpr c5
     subst c5
     have H1 : (some false) = some r := by rw [if_neg (show ¬ (false = true) by decide)] at H; exact H
     clear H
     have H := H1
     clear H1
     obtain rfl := Option.some.inj H
     have p145 : 0 ≤ (x3_1 : Int) := zD
     have q145 : x3_1 < (l0.length : Int) := zD
     obtain ⟨ad145, e145, hx145_0⟩ := Kd.at_int HR0.out x3_1 p145 q145
     cases e145
     replace p145 := eq_true p145
     replace q145 := eq_true q145
     go_wp2_with (first | ((with_reducible refine gate_callee (f := 58) rfl ?_); refine goesL_ (some 14) rfl rfl Try.func58 (by kernel_rfl) rfl #[.int .i64 (rd l0 x3_1), .int .i64 0, .int .i64 255] rfl zG ?_; (with_reducible refine (spec_l1In.calls (rd l0 x3_1) 0 255 false _ A4.out).mono ?_); rintro e w' ⟨rfl, ⟨nd, rfl⟩⟩; refine ⟨_, rfl, ?_⟩))
     go_ret
     exact ⟨by first | rfl | (simp; done) | (simp [*]; done), by repeat (first | exact Drawn0.refl _ | apply Drawn0.step)⟩
   ·rw [if_neg c2] at H
    have c2b0 : decide (x3_1 < (l0.length : Int)) = false := decide_eq_false c2
    clear c2
    obtain rfl := Option.some.inj H
    go_wp2
    go_ret
    exact ⟨by first | rfl | (simp; done) | (simp [*]; done), by repeat (first | exact Drawn0.refl _ | apply Drawn0.step)⟩

/-! ### spec_AreExts: function 28 -/
def spec_AreExts.l0 : Nat → List (S46) → Int → Option (Bool)
 | 0, _, _ => none
 | k + 1, x0, x3 => if x3 < (x0.length : Int) then (if 0 ≤ x3 then ((spec_l1In.f ((rd_T46 x0 x3).f0) 0 255).bind fun t148 => (if t148 = true then (if (((rd_T46 x0 x3).f1).length : Int) > 4 then (some false) else ((spec_l9Byte.f k ((rd_T46 x0 x3).f1)).bind fun t151 => (if t151 = true then ((spec_ExtOf.f k x0 ((rd_T46 x0 x3).f0)).bind fun t153 => (if t153 < x3 then (some false) else (spec_AreExts.l0 k x0 (wrap64 (x3 + 1))))) else (some false)))) else (some false))) else (none)) else (some (decide ((x0.length : Int) ≤ 6)))
def spec_AreExts.f (k : Nat) (l0 : List (S46)) : Option (Bool) := spec_AreExts.l0 k l0 0
theorem spec_AreExts.mono_l : ∀ k, (∀ y0 y1, LeO (spec_AreExts.l0 k y0 y1) (spec_AreExts.l0 (k + 1) y0 y1))
 | 0 => fun _ _ r h => by simp [spec_AreExts.l0] at h
 | k + 1 => by
  have ih0 := spec_AreExts.mono_l k
  ·intro y0 y1
   unfold spec_AreExts.l0
   repeat' first
   | (with_reducible exact ih0 _ _)
   | (with_reducible exact spec_ExtOf.mono _ _ _)
   | (with_reducible exact spec_l9Byte.mono _ _)
   | (with_reducible exact LeO.refl _)
   | (with_reducible exact LeO.none _)
   | (with_reducible refine LeO.ite ?_ ?_)
   | (with_reducible refine LeO.bind ?_ (fun _ => ?_))
   | exact ih0 _ _
   | exact spec_ExtOf.mono _ _ _
   | exact spec_l9Byte.mono _ _
   | exact LeO.none _
   | refine LeO.ite ?_ ?_
   | refine LeO.bind ?_ (fun _ => ?_)
theorem spec_AreExts.mono : ∀ a0 k, LeO (spec_AreExts.f k a0) (spec_AreExts.f (k + 1) a0) := by
 intro a0 k
 have ih0 := spec_AreExts.mono_l k
 unfold spec_AreExts.f
 repeat' first
   | (with_reducible exact ih0 _ _)
   | (with_reducible exact spec_ExtOf.mono _ _ _)
   | (with_reducible exact spec_l9Byte.mono _ _)
   | (with_reducible exact LeO.refl _)
   | (with_reducible exact LeO.none _)
   | (with_reducible refine LeO.ite ?_ ?_)
   | (with_reducible refine LeO.bind ?_ (fun _ => ?_))
   | exact ih0 _ _
   | exact spec_ExtOf.mono _ _ _
   | exact spec_l9Byte.mono _ _
   | exact LeO.none _
   | refine LeO.ite ?_ ?_
   | refine LeO.bind ?_ (fun _ => ?_)
set_option maxHeartbeats 8000000 in
set_option maxRecDepth 100000 in
theorem spec_AreExts.calls (k : Nat) (A0 : Option Addr) (c0 : Nat) (l0 : List (S46)) (r : Bool) (w : World) (hr0 : Kd.C k46 w A0 l0.length l0) (hc0 : l0.length ≤ c0) (h : spec_AreExts.f k l0 = some r) :
  Calls Try.prog 28 #[.slice A0 l0.length c0] w fun e w' => e = .returned (.bool r) ∧ Drawn0 w w' := by
 have HR0 := Aside0.mk hr0
 have HC0 := Aside0.mk hc0
 clear hr0 hc0
 have H : (spec_AreExts.l0 k l0 0) = some r := h
 clear h
 have H' := Aside0.mk H
 clear H
 go_enter Try.func28, Try.ntmps28
 go_wp2
 go_loopg [3] k (fun kq v3 w' => ∃ (x3_1 : Int), v3 = .int .i64 x3_1 ∧ Aside0 (spec_AreExts.l0 kq l0 x3_1 = some r) ∧ Aside0 (kq ≤ k) ∧ Drawn0 w w')
 case atStart => exact ⟨(0), zF, H', ⟨Nat.le_refl _⟩, by repeat (first | exact Drawn0.refl _ | apply Drawn0.step)⟩
 case round =>
  clear H'
  obtain ⟨x3_1, rfl, HA, HK1, ⟨m1, rfl⟩⟩ := hrel
  cases gk with
  | zero => exact absurd HA.out (by simp [spec_AreExts.l0])
  | succ k1 =>
   have H := HA.out
   clear HA
   simp only [spec_AreExts.l0] at H
   by_cases c2 : x3_1 < (l0.length : Int)
   ·rw [if_pos c2] at H
    have c2b0 : decide (x3_1 < (l0.length : Int)) = true := decide_eq_true c2
    clear c2
    obtain ⟨c3, H⟩ := ifS H
    have c3b0 : decide (0 ≤ x3_1) = true := decide_eq_true c3
    clear c3
    obtain ⟨t148, A4, H⟩ := bindS H
    by_cases c5 : t148 = true
    ·subst c5
     have H1 : (if (((rd_T46 l0 x3_1).f1).length : Int) > 4 then (some false) else ((spec_l9Byte.f k1 ((rd_T46 l0 x3_1).f1)).bind fun t151 => (if t151 = true then ((spec_ExtOf.f k1 l0 ((rd_T46 l0 x3_1).f0)).bind fun t153 => (if t153 < x3_1 then (some false) else (spec_AreExts.l0 k1 l0 (wrap64 (x3_1 + 1))))) else (some false)))) = some r := by rw [if_pos rfl] at H; exact H
     clear H
     have H := H1
     clear H1
     by_cases c6 : (((rd_T46 l0 x3_1).f1).length : Int) > 4
     ·rw [if_pos c6] at H
      have c6b0 : decide (4 < (((rd_T46 l0 x3_1).f1).length : Int)) = true := decide_eq_true c6
      have c6b1 : decide (4 < ((rd_T46 l0 x3_1).f1).length) = true := decide_eq_true (by omega)
      clear c6
      obtain rfl := Option.some.inj H
      have p147 : 0 ≤ (x3_1 : Int) := zD
      have q147 : x3_1 < (l0.length : Int) := zD
      obtain ⟨ad147, A147_1, c147_1, e147, hx147_0, hx147_1, hl147_1, hi147_1⟩ := at_T46 HR0.out x3_1 p147 q147
      cases e147
      have HR147_1 := Aside0.mk hi147_1
      have HC147_1 := Aside0.mk hl147_1
      clear hi147_1 hl147_1
      replace p147 := eq_true p147
      replace q147 := eq_true q147
      go_wp2_with (first | ((with_reducible refine gate_callee (f := 58) rfl ?_); refine goesL_ (some 15) rfl rfl Try.func58 (by kernel_rfl) rfl #[.int .i64 ((rd_T46 l0 x3_1).f0), .int .i64 0, .int .i64 255] rfl zG ?_; (with_reducible refine (spec_l1In.calls ((rd_T46 l0 x3_1).f0) 0 255 true _ A4.out).mono ?_); rintro e w' ⟨rfl, ⟨nd, rfl⟩⟩; refine ⟨_, rfl, ?_⟩; have p149 : 0 ≤ (x3_1 : Int) := zD; have q149 : x3_1 < (l0.length : Int) := zD; obtain ⟨ad149, A149_1, c149_1, e149, hx149_0, hx149_1, hl149_1, hi149_1⟩ := at_T46 HR0.out x3_1 p149 q149; obtain rfl : ad147 = ad149 := (by injection e149); have HR149_1 := Aside0.mk hi149_1; have HC149_1 := Aside0.mk hl149_1; clear hi149_1 hl149_1; replace p149 := eq_true p149; replace q149 := eq_true q149; have ea_ := Option.some.inj (hx147_1.symm.trans hx149_1); injection ea_ with ea_ en_ ec_; subst ea_; subst ec_; clear en_))
      go_ret
      exact ⟨by first | rfl | (simp; done) | (simp [*]; done), by repeat (first | exact Drawn0.refl _ | apply Drawn0.step)⟩
     ·rw [if_neg c6] at H
      have c6b0 : decide (4 < (((rd_T46 l0 x3_1).f1).length : Int)) = false := decide_eq_false c6
      have c6b1 : decide (4 < ((rd_T46 l0 x3_1).f1).length) = false := decide_eq_false (by omega)
      clear c6
      obtain ⟨t151, A7, H⟩ := bindS H
      by_cases c8 : t151 = true
      ·subst c8
       have H1 : ((spec_ExtOf.f k1 l0 ((rd_T46 l0 x3_1).f0)).bind fun t153 => (if t153 < x3_1 then (some false) else (spec_AreExts.l0 k1 l0 (wrap64 (x3_1 + 1))))) = some r := by rw [if_pos rfl] at H; exact H
       clear H
       have H := H1
       clear H1
       obtain ⟨t153, A9, H⟩ := bindS H
       by_cases c10 : t153 < x3_1
       ·rw [if_pos c10] at H
        have c10b0 : decide (t153 < x3_1) = true := decide_eq_true c10
        clear c10
        obtain rfl := Option.some.inj H
        have p147 : 0 ≤ (x3_1 : Int) := zD
        have q147 : x3_1 < (l0.length : Int) := zD
        obtain ⟨ad147, A147_1, c147_1, e147, hx147_0, hx147_1, hl147_1, hi147_1⟩ := at_T46 HR0.out x3_1 p147 q147
        cases e147
        have HR147_1 := Aside0.mk hi147_1
        have HC147_1 := Aside0.mk hl147_1
        clear hi147_1 hl147_1
        replace p147 := eq_true p147
        replace q147 := eq_true q147
        go_wp2_with (first | ((with_reducible refine gate_callee (f := 58) rfl ?_); refine goesL_ (some 15) rfl rfl Try.func58 (by kernel_rfl) rfl #[.int .i64 ((rd_T46 l0 x3_1).f0), .int .i64 0, .int .i64 255] rfl zG ?_; (with_reducible refine (spec_l1In.calls ((rd_T46 l0 x3_1).f0) 0 255 true _ A4.out).mono ?_); rintro e w' ⟨rfl, ⟨nd, rfl⟩⟩; refine ⟨_, rfl, ?_⟩; have p149 : 0 ≤ (x3_1 : Int) := zD; have q149 : x3_1 < (l0.length : Int) := zD; obtain ⟨ad149, A149_1, c149_1, e149, hx149_0, hx149_1, hl149_1, hi149_1⟩ := at_T46 HR0.out x3_1 p149 q149; obtain rfl : ad147 = ad149 := (by injection e149); have HR149_1 := Aside0.mk hi149_1; have HC149_1 := Aside0.mk hl149_1; clear hi149_1 hl149_1; replace p149 := eq_true p149; replace q149 := eq_true q149; have ea_ := Option.some.inj (hx147_1.symm.trans hx149_1); injection ea_ with ea_ en_ ec_; subst ea_; subst ec_; clear en_; have p150 : 0 ≤ (x3_1 : Int) := zD; have q150 : x3_1 < (l0.length : Int) := zD; obtain ⟨ad150, A150_1, c150_1, e150, hx150_0, hx150_1, hl150_1, hi150_1⟩ := at_T46 HR0.out x3_1 p150 q150; obtain rfl : ad147 = ad150 := (by injection e150); have HR150_1 := Aside0.mk hi150_1; have HC150_1 := Aside0.mk hl150_1; clear hi150_1 hl150_1; replace p150 := eq_true p150; replace q150 := eq_true q150; have ea_ := Option.some.inj (hx147_1.symm.trans hx150_1); injection ea_ with ea_ en_ ec_; subst ea_; subst ec_; clear en_) | (go_at_call 59; (with_reducible refine (spec_l9Byte.calls k1 _ _ ((rd_T46 l0 x3_1).f1) true _ ?side1 ?side2 A7.out).mono ?_); (case side1 => exact cT HR150_1); (case side2 => exact HC150_1.out); rintro e w' ⟨rfl, ⟨nd, rfl⟩⟩; have p152 : 0 ≤ (x3_1 : Int) := zD; have q152 : x3_1 < (l0.length : Int) := zD; obtain ⟨ad152, A152_1, c152_1, e152, hx152_0, hx152_1, hl152_1, hi152_1⟩ := at_T46 HR0.out x3_1 p152 q152; obtain rfl : ad147 = ad152 := (by injection e152); have HR152_1 := Aside0.mk hi152_1; have HC152_1 := Aside0.mk hl152_1; clear hi152_1 hl152_1; replace p152 := eq_true p152; replace q152 := eq_true q152; have ea_ := Option.some.inj (hx147_1.symm.trans hx152_1); injection ea_ with ea_ en_ ec_; subst ea_; subst ec_; clear en_) | (go_at_call 29; (with_reducible refine (spec_ExtOf.calls k1 _ _ l0 ((rd_T46 l0 x3_1).f0) t153 _ ?side1 ?side2 A9.out).mono ?_); (case side1 => exact cT HR0); (case side2 => exact HC0.out); rintro e w' ⟨rfl, ⟨nd, rfl⟩⟩))
        go_ret
        exact ⟨by first | rfl | (simp; done) | (simp [*]; done), by repeat (first | exact Drawn0.refl _ | apply Drawn0.step)⟩
       ·rw [if_neg c10] at H
        have c10b0 : decide (t153 < x3_1) = false := decide_eq_false c10
        clear c10
        have H' := Aside0.mk H
        clear H
        have p147 : 0 ≤ (x3_1 : Int) := zD
        have q147 : x3_1 < (l0.length : Int) := zD
        obtain ⟨ad147, A147_1, c147_1, e147, hx147_0, hx147_1, hl147_1, hi147_1⟩ := at_T46 HR0.out x3_1 p147 q147
        cases e147
        have HR147_1 := Aside0.mk hi147_1
        have HC147_1 := Aside0.mk hl147_1
        clear hi147_1 hl147_1
        replace p147 := eq_true p147
        replace q147 := eq_true q147
        go_wp2_with (first | ((with_reducible refine gate_callee (f := 58) rfl ?_); refine goesL_ (some 15) rfl rfl Try.func58 (by kernel_rfl) rfl #[.int .i64 ((rd_T46 l0 x3_1).f0), .int .i64 0, .int .i64 255] rfl zG ?_; (with_reducible refine (spec_l1In.calls ((rd_T46 l0 x3_1).f0) 0 255 true _ A4.out).mono ?_); rintro e w' ⟨rfl, ⟨nd, rfl⟩⟩; refine ⟨_, rfl, ?_⟩; have p149 : 0 ≤ (x3_1 : Int) := zD; have q149 : x3_1 < (l0.length : Int) := zD; obtain ⟨ad149, A149_1, c149_1, e149, hx149_0, hx149_1, hl149_1, hi149_1⟩ := at_T46 HR0.out x3_1 p149 q149; obtain rfl : ad147 = ad149 := (by injection e149); have HR149_1 := Aside0.mk hi149_1; have HC149_1 := Aside0.mk hl149_1; clear hi149_1 hl149_1; replace p149 := eq_true p149; replace q149 := eq_true q149; have ea_ := Option.some.inj (hx147_1.symm.trans hx149_1); injection ea_ with ea_ en_ ec_; subst ea_; subst ec_; clear en_; have p150 : 0 ≤ (x3_1 : Int) := zD; have q150 : x3_1 < (l0.length : Int) := zD; obtain ⟨ad150, A150_1, c150_1, e150, hx150_0, hx150_1, hl150_1, hi150_1⟩ := at_T46 HR0.out x3_1 p150 q150; obtain rfl : ad147 = ad150 := (by injection e150); have HR150_1 := Aside0.mk hi150_1; have HC150_1 := Aside0.mk hl150_1; clear hi150_1 hl150_1; replace p150 := eq_true p150; replace q150 := eq_true q150; have ea_ := Option.some.inj (hx147_1.symm.trans hx150_1); injection ea_ with ea_ en_ ec_; subst ea_; subst ec_; clear en_) | (go_at_call 59; (with_reducible refine (spec_l9Byte.calls k1 _ _ ((rd_T46 l0 x3_1).f1) true _ ?side1 ?side2 A7.out).mono ?_); (case side1 => exact cT HR150_1); (case side2 => exact HC150_1.out); rintro e w' ⟨rfl, ⟨nd, rfl⟩⟩; have p152 : 0 ≤ (x3_1 : Int) := zD; have q152 : x3_1 < (l0.length : Int) := zD; obtain ⟨ad152, A152_1, c152_1, e152, hx152_0, hx152_1, hl152_1, hi152_1⟩ := at_T46 HR0.out x3_1 p152 q152; obtain rfl : ad147 = ad152 := (by injection e152); have HR152_1 := Aside0.mk hi152_1; have HC152_1 := Aside0.mk hl152_1; clear hi152_1 hl152_1; replace p152 := eq_true p152; replace q152 := eq_true q152; have ea_ := Option.some.inj (hx147_1.symm.trans hx152_1); injection ea_ with ea_ en_ ec_; subst ea_; subst ec_; clear en_) | (go_at_call 29; (with_reducible refine (spec_ExtOf.calls k1 _ _ l0 ((rd_T46 l0 x3_1).f0) t153 _ ?side1 ?side2 A9.out).mono ?_); (case side1 => exact cT HR0); (case side2 => exact HC0.out); rintro e w' ⟨rfl, ⟨nd, rfl⟩⟩))
        go_roundg k1
        case measure => have := HK1.out; omega
        case rel => exact ⟨(wrap64 (x3_1 + 1)), zF, H', ⟨by have := HK1.out; omega⟩, by repeat (first | exact Drawn0.refl _ | apply Drawn0.step)⟩
      ·replace c8 := Bool.eq_false_iff.mpr c8
       subst c8
       have H1 : (some false) = some r := by rw [if_neg (show ¬ (false = true) by decide)] at H; exact H
       clear H
       have H := H1
       clear H1
       obtain rfl := Option.some.inj H
       have p147 : 0 ≤ (x3_1 : Int) := zD
       have q147 : x3_1 < (l0.length : Int) := zD
       obtain ⟨ad147, A147_1, c147_1, e147, hx147_0, hx147_1, hl147_1, hi147_1⟩ := at_T46 HR0.out x3_1 p147 q147
       cases e147
       have HR147_1 := Aside0.mk hi147_1
       have HC147_1 := Aside0.mk hl147_1
       clear hi147_1 hl147_1
       replace p147 := eq_true p147
       replace q147 := eq_true q147
       go_wp2_with (first | ((with_reducible refine gate_callee (f := 58) rfl ?_); refine goesL_ (some 15) rfl rfl Try.func58 (by kernel_rfl) rfl #[.int .i64 ((rd_T46 l0 x3_1).f0), .int .i64 0, .int .i64 255] rfl zG ?_; (with_reducible refine (spec_l1In.calls ((rd_T46 l0 x3_1).f0) 0 255 true _ A4.out).mono ?_); rintro e w' ⟨rfl, ⟨nd, rfl⟩⟩; refine ⟨_, rfl, ?_⟩; have p149 : 0 ≤ (x3_1 : Int) := zD; have q149 : x3_1 < (l0.length : Int) := zD; obtain ⟨ad149, A149_1, c149_1, e149, hx149_0, hx149_1, hl149_1, hi149_1⟩ := at_T46 HR0.out x3_1 p149 q149; obtain rfl : ad147 = ad149 := (by injection e149); have HR149_1 := Aside0.mk hi149_1; have HC149_1 := Aside0.mk hl149_1; clear hi149_1 hl149_1; replace p149 := eq_true p149; replace q149 := eq_true q149; have ea_ := Option.some.inj (hx147_1.symm.trans hx149_1); injection ea_ with ea_ en_ ec_; subst ea_; subst ec_; clear en_; have p150 : 0 ≤ (x3_1 : Int) := zD; have q150 : x3_1 < (l0.length : Int) := zD; obtain ⟨ad150, A150_1, c150_1, e150, hx150_0, hx150_1, hl150_1, hi150_1⟩ := at_T46 HR0.out x3_1 p150 q150; obtain rfl : ad147 = ad150 := (by injection e150); have HR150_1 := Aside0.mk hi150_1; have HC150_1 := Aside0.mk hl150_1; clear hi150_1 hl150_1; replace p150 := eq_true p150; replace q150 := eq_true q150; have ea_ := Option.some.inj (hx147_1.symm.trans hx150_1); injection ea_ with ea_ en_ ec_; subst ea_; subst ec_; clear en_) | (go_at_call 59; (with_reducible refine (spec_l9Byte.calls k1 _ _ ((rd_T46 l0 x3_1).f1) false _ ?side1 ?side2 A7.out).mono ?_); (case side1 => exact cT HR150_1); (case side2 => exact HC150_1.out); rintro e w' ⟨rfl, ⟨nd, rfl⟩⟩))
       go_ret
       exact ⟨by first | rfl | (simp; done) | (simp [*]; done), by repeat (first | exact Drawn0.refl _ | apply Drawn0.step)⟩
    ·replace c5 := Bool.eq_false_iff.mpr c5
     subst c5
     have H1 : (some false) = some r := by rw [if_neg (show ¬ (false = true) by decide)] at H; exact H
     clear H
     have H := H1
     clear H1
     obtain rfl := Option.some.inj H
     have p147 : 0 ≤ (x3_1 : Int) := zD
     have q147 : x3_1 < (l0.length : Int) := zD
     obtain ⟨ad147, A147_1, c147_1, e147, hx147_0, hx147_1, hl147_1, hi147_1⟩ := at_T46 HR0.out x3_1 p147 q147
     cases e147
     have HR147_1 := Aside0.mk hi147_1
     have HC147_1 := Aside0.mk hl147_1
     clear hi147_1 hl147_1
     replace p147 := eq_true p147
     replace q147 := eq_true q147
     go_wp2_with (first | ((with_reducible refine gate_callee (f := 58) rfl ?_); refine goesL_ (some 15) rfl rfl Try.func58 (by kernel_rfl) rfl #[.int .i64 ((rd_T46 l0 x3_1).f0), .int .i64 0, .int .i64 255] rfl zG ?_; (with_reducible refine (spec_l1In.calls ((rd_T46 l0 x3_1).f0) 0 255 false _ A4.out).mono ?_); rintro e w' ⟨rfl, ⟨nd, rfl⟩⟩; refine ⟨_, rfl, ?_⟩))
     go_ret
     exact ⟨by first | rfl | (simp; done) | (simp [*]; done), by repeat (first | exact Drawn0.refl _ | apply Drawn0.step)⟩
   ·rw [if_neg c2] at H
    have c2b0 : decide (x3_1 < (l0.length : Int)) = false := decide_eq_false c2
    clear c2
    obtain rfl := Option.some.inj H
    go_wp2
    go_ret
    exact ⟨by first | rfl | (simp; done) | (simp [*]; done), by repeat (first | exact Drawn0.refl _ | apply Drawn0.step)⟩

end Go.Proofs.Ytbahcefcoplmpaa.PFnExactAddGrease
