-- WRITTEN by pp.py, this session's own wrapper around the print; not trusted: Lean checks it
import Derived.Test.YticpmgofegaaeaaPFnExactLostByx0
import Derived.Test.YticpmgofegaaeaaPFnExactLostByx1
namespace Go.Proofs.Yticpmgofegaaeaa.PFnExactLostBy
open Go.RowKit Go.Proofs.Yticpmgofegaaeaa.Hw Go.Proofs.YticpmgofegaaeaaW.PrintWords Go.Proofs.YticpmgofegaaeaaW.PrintLast Go.Proofs.YticpmgofegaaeaaW.PrintMore
attribute [local go_sem] max2_int min2_int max_two min_two max_three min_three max_four min_four   -- for this text's walks alone
set_option linter.unusedVariables false
set_option linter.unusedSimpArgs false
set_option linter.unusedSectionVars false

/-! ### spec_FitsField: function 58 -/
mutual
def spec_FitsField.j0 : Nat → Int → Int → Int → Int → Int → Int → List Int → Option (Bool)
 | 0, _, _, _, _, _, _, _ => none
 | k + 1, x5, x167000, x167001, x167002, x167003, x168000, x168001 => spec_FitsField.l0 k x5 0 x167000 x167001 x167002 x167003 x168000 x168001
def spec_FitsField.l0 : Nat → Int → Int → Int → Int → Int → Int → Int → List Int → Option (Bool)
 | 0, _, _, _, _, _, _, _, _ => none
 | k + 1, x5, x6, x167000, x167001, x167002, x167003, x168000, x168001 => if x6 < (x168001.length : Int) then (if 0 ≤ x6 then ((spec_l1In.f (rd x168001 x6) 0 x5).bind fun t170 => (if t170 = true then (spec_FitsField.l0 k x5 (wrap64 (x6 + 1)) x167000 x167001 x167002 x167003 x168000 x168001) else (some false))) else (none)) else (if x168000 = 0 then (some (decide ((x168001.length : Int) ≤ x167001))) else (some false))
end
def spec_FitsField.f (k : Nat) (a0_0 : Int) (a0_1 : Int) (a0_2 : Int) (a0_3 : Int) (a1_0 : Int) (l1_1 : List Int) : Option (Bool) := if a0_0 = 1 then ((spec_l1In.f a1_0 0 a0_1).bind fun t168 => (if t168 = true then (some ((l1_1.length : Int) == 0)) else (some false))) else (if a0_0 = 3 then (spec_FitsField.j0 k 99 a0_0 a0_1 a0_2 a0_3 a1_0 l1_1) else (if a0_0 = 2 then (spec_FitsField.j0 k 255 a0_0 a0_1 a0_2 a0_3 a1_0 l1_1) else (some false)))
theorem spec_FitsField.mono_l : ∀ k, (∀ y0 y1 y2 y3 y4 y5 y6, LeO (spec_FitsField.j0 k y0 y1 y2 y3 y4 y5 y6) (spec_FitsField.j0 (k + 1) y0 y1 y2 y3 y4 y5 y6)) ∧ (∀ y0 y1 y2 y3 y4 y5 y6 y7, LeO (spec_FitsField.l0 k y0 y1 y2 y3 y4 y5 y6 y7) (spec_FitsField.l0 (k + 1) y0 y1 y2 y3 y4 y5 y6 y7))
 | 0 => ⟨fun _ _ _ _ _ _ _ r h => by simp [spec_FitsField.j0] at h, fun _ _ _ _ _ _ _ _ r h => by simp [spec_FitsField.l0] at h⟩
 | k + 1 => by
  obtain ⟨ih0, ih1⟩ := spec_FitsField.mono_l k
  refine ⟨?_, ?_⟩
  ·intro y0 y1 y2 y3 y4 y5 y6
   unfold spec_FitsField.j0
   repeat' first
   | (with_reducible exact ih0 _ _ _ _ _ _ _)
   | (with_reducible exact ih1 _ _ _ _ _ _ _ _)
   | (with_reducible exact LeO.refl _)
   | (with_reducible exact LeO.none _)
   | (with_reducible refine LeO.ite ?_ ?_)
   | (with_reducible refine LeO.bind ?_ (fun _ => ?_))
   | exact ih0 _ _ _ _ _ _ _
   | exact ih1 _ _ _ _ _ _ _ _
   | exact LeO.none _
   | refine LeO.ite ?_ ?_
   | refine LeO.bind ?_ (fun _ => ?_)
  ·intro y0 y1 y2 y3 y4 y5 y6 y7
   unfold spec_FitsField.l0
   repeat' first
   | (with_reducible exact ih0 _ _ _ _ _ _ _)
   | (with_reducible exact ih1 _ _ _ _ _ _ _ _)
   | (with_reducible exact LeO.refl _)
   | (with_reducible exact LeO.none _)
   | (with_reducible refine LeO.ite ?_ ?_)
   | (with_reducible refine LeO.bind ?_ (fun _ => ?_))
   | exact ih0 _ _ _ _ _ _ _
   | exact ih1 _ _ _ _ _ _ _ _
   | exact LeO.none _
   | refine LeO.ite ?_ ?_
   | refine LeO.bind ?_ (fun _ => ?_)
theorem spec_FitsField.mono : ∀ a0 a1 a2 a3 a4 a5 k, LeO (spec_FitsField.f k a0 a1 a2 a3 a4 a5) (spec_FitsField.f (k + 1) a0 a1 a2 a3 a4 a5) := by
 intro a0 a1 a2 a3 a4 a5 k
 obtain ⟨ih0, ih1⟩ := spec_FitsField.mono_l k
 unfold spec_FitsField.f
 repeat' first
   | (with_reducible exact ih0 _ _ _ _ _ _ _)
   | (with_reducible exact ih1 _ _ _ _ _ _ _ _)
   | (with_reducible exact LeO.refl _)
   | (with_reducible exact LeO.none _)
   | (with_reducible refine LeO.ite ?_ ?_)
   | (with_reducible refine LeO.bind ?_ (fun _ => ?_))
   | exact ih0 _ _ _ _ _ _ _
   | exact ih1 _ _ _ _ _ _ _ _
   | exact LeO.none _
   | refine LeO.ite ?_ ?_
   | refine LeO.bind ?_ (fun _ => ?_)
set_option maxHeartbeats 8000000 in
set_option maxRecDepth 100000 in
theorem spec_FitsField.calls (k : Nat) (a0_0 : Int) (a0_1 : Int) (a0_2 : Int) (a0_3 : Int) (a1_0 : Int) (A1_1 : Option Addr) (c1_1 : Nat) (l1_1 : List Int) (r : Bool) (w : World) (hr1_1 : Kd.C (Kd.int .i64) w A1_1 l1_1.length l1_1) (hc1_1 : l1_1.length ≤ c1_1) (h : spec_FitsField.f k a0_0 a0_1 a0_2 a0_3 a1_0 l1_1 = some r) :
  Calls Try.prog 58 #[.agg #[.int .i64 a0_0, .int .i64 a0_1, .int .i64 a0_2, .int .i64 a0_3], .agg #[.int .i64 a1_0, .slice A1_1 l1_1.length c1_1]] w fun e w' => e = .returned (.bool r) ∧ Below w.heap.size w w' := by
 have hu47 := Try.underlying47
 have hu58 := Try.underlying58
 have HR1_1 := Aside0.mk hr1_1
 have HC1_1 := Aside0.mk hc1_1
 clear hr1_1 hc1_1
 have HB := Aside0.mk (Below.refl w.heap.size w)
 have H : (if a0_0 = 1 then ((spec_l1In.f a1_0 0 a0_1).bind fun t168 => (if t168 = true then (some ((l1_1.length : Int) == 0)) else (some false))) else (if a0_0 = 3 then (spec_FitsField.j0 k 99 a0_0 a0_1 a0_2 a0_3 a1_0 l1_1) else (if a0_0 = 2 then (spec_FitsField.j0 k 255 a0_0 a0_1 a0_2 a0_3 a1_0 l1_1) else (some false)))) = some r := h
 clear h
 have HC3 := Aside0.mk H
 clear H
 go_enter Try.func58, Try.ntmps58
 go_upto_block 0 with (first | ((with_reducible refine gate_dst (N := 2) rfl ?_); (try (refine gate_guard (by rfl) ?_; dsimp only)); refine box_event ?hg (N := 2) ?hd (cs := #[.int .i64 a0_0, .int .i64 a0_1, .int .i64 a0_2, .int .i64 a0_3]) (t := 47) ?hr ?_; (case hd => rfl); (case hg => rfl); (case hr => first | (go_simp; done) | (go_simp; rfl)); intro gb166 hg w4 hbox hb; have BK166 := Aside0.mk (hbox); have GW166 := gS HB hg; have GE166 := gS HB hg; replace HB := bS HB hb; clear hb hbox hg) | ((with_reducible refine gate_dst (N := 3) rfl ?_); (try (refine gate_guard (by rfl) ?_; dsimp only)); refine box_event ?hg (N := 3) ?hd (cs := #[.int .i64 a1_0, .slice A1_1 l1_1.length c1_1]) (t := 58) ?hr ?_; (case hd => rfl); (case hg => rfl); (case hr => first | (go_simp; done) | (go_simp; rfl)); intro gb167 hg w5 hbox hb; have BK167 := Aside0.mk (hbox); have GW167 := gS HB hg; have GE167 := gS HB hg; replace HB := bS HB hb; have NB166_167 := nL BK166 hg; have NB167_166 := nR BK166 hg; replace BK166 := kB BK166 hb; clear hb hbox hg; have hnb6 := NB166_167.out; have hnc6 := NB167_166.out; have hcz7_0 := bc0 BK166; have hcz7_1 := bc1 BK166; have hcz7_2 := bc2 BK166; have hcz7_3 := bc3 BK166; have hfz7_0 := bf BK166 0; have hfz7_1 := bf BK166 1; have hfz7_2 := bf BK166 2; have hfz7_3 := bf BK166 3))
 (try simp only [Act.put, List.setIfInBounds_toArray, List.set_cons_zero, List.set_cons_succ])
 go_cut [5] (fun v5 wc => ∃ (kq : Nat) (x5_2 : Int), v5 = .int .i64 x5_2 ∧ Aside0 (spec_FitsField.j0 kq x5_2 a0_0 a0_1 a0_2 a0_3 a1_0 l1_1 = some r) ∧ Aside0 (kq ≤ k) ∧ Aside0 (wc.heap[gb166]? = some (.cells #[.int .i64 a0_0, .int .i64 a0_1, .int .i64 a0_2, .int .i64 a0_3] 47 (0, 0))) ∧ Aside0 (wc.heap[gb167]? = some (.cells #[.int .i64 a1_0, (.slice A1_1 l1_1.length c1_1)] 58 (0, 0))) ∧ Aside0 (Below w.heap.size w wc))
 case first =>
  have H := HC3.out
  clear HC3
  by_cases c8 : a0_0 = 1
  ·rw [if_pos c8] at H
   have c8b0 : (a0_0 == 1) = true := beq_iff_eq.mpr c8
   have c8b1 : (a0_0 != 1) = false := bne_eq_false_iff_eq.mpr c8
   clear c8
   (first | rw [c8b0] | (simp only [i64_w, i32_w]; rw [c8b0]) | skip)
   obtain ⟨t168, A9, H⟩ := bindS H
   by_cases c10 : t168 = true
   ·subst c10
    have H1 : (some ((l1_1.length : Int) == 0)) = some r := by rw [if_pos rfl] at H; exact H
    clear H
    have H := H1
    clear H1
    obtain rfl := Option.some.inj H
    have hnb11 := NB167_166.out
    have hnc11 := NB166_167.out
    have hcz12_0 := bc0 BK167
    have hcz12_1 := bc1 BK167
    have hfz12_0 := bf BK167 0
    have hfz12_1 := bf BK167 1
    have hcz13_0 := bc0 BK166
    have hcz13_1 := bc1 BK166
    have hcz13_2 := bc2 BK166
    have hcz13_3 := bc3 BK166
    have hfz13_0 := bf BK166 0
    have hfz13_1 := bf BK166 1
    have hfz13_2 := bf BK166 2
    have hfz13_3 := bf BK166 3
    go_wp2_with (first | ((with_reducible refine gate_callee (f := 49) rfl ?_); refine goesL_ (some 15) rfl rfl Try.func49 (by kernel_rfl) rfl #[.int .i64 a1_0, .int .i64 0, .int .i64 a0_1] rfl zG ?_; (with_reducible refine (spec_l1In.calls a1_0 0 a0_1 true _ A9.out).mono ?_); rintro e w' ⟨rfl, ⟨nd, rfl⟩⟩; refine ⟨_, rfl, ?_⟩))
    go_ret
    exact ⟨zE, zB HB⟩
   ·replace c10 := Bool.eq_false_iff.mpr c10
    subst c10
    have H1 : (some false) = some r := by rw [if_neg (show ¬ (false = true) by decide)] at H; exact H
    clear H
    have H := H1
    clear H1
    obtain rfl := Option.some.inj H
    have hnb14 := NB167_166.out
    have hnc14 := NB166_167.out
    have hcz15_0 := bc0 BK167
    have hcz15_1 := bc1 BK167
    have hfz15_0 := bf BK167 0
    have hfz15_1 := bf BK167 1
    have hcz16_0 := bc0 BK166
    have hcz16_1 := bc1 BK166
    have hcz16_2 := bc2 BK166
    have hcz16_3 := bc3 BK166
    have hfz16_0 := bf BK166 0
    have hfz16_1 := bf BK166 1
    have hfz16_2 := bf BK166 2
    have hfz16_3 := bf BK166 3
    go_wp2_with (first | ((with_reducible refine gate_callee (f := 49) rfl ?_); refine goesL_ (some 15) rfl rfl Try.func49 (by kernel_rfl) rfl #[.int .i64 a1_0, .int .i64 0, .int .i64 a0_1] rfl zG ?_; (with_reducible refine (spec_l1In.calls a1_0 0 a0_1 false _ A9.out).mono ?_); rintro e w' ⟨rfl, ⟨nd, rfl⟩⟩; refine ⟨_, rfl, ?_⟩))
    go_ret
    exact ⟨zE, zB HB⟩
  ·rw [if_neg c8] at H
   have c8b0 : (a0_0 == 1) = false := beq_eq_false_iff_ne.mpr c8
   have c8b1 : (a0_0 != 1) = true := bne_iff_ne.mpr c8
   (first | rw [c8b0] | (simp only [i64_w, i32_w]; rw [c8b0]) | skip)
   by_cases c17 : a0_0 = 3
   ·rw [if_pos c17] at H
    have c17b0 : (a0_0 == 3) = true := beq_iff_eq.mpr c17
    have c17b1 : (a0_0 != 3) = false := bne_eq_false_iff_eq.mpr c17
    clear c17
    have H' := Aside0.mk H
    clear H
    go_wp2
    go_meet
    case rel => exact ⟨_, (99), zF, H', ⟨by first | omega | exact Nat.le_refl _⟩, ⟨zK BK166⟩, ⟨zK BK167⟩, ⟨zB HB⟩⟩
   ·rw [if_neg c17] at H
    have c17b0 : (a0_0 == 3) = false := beq_eq_false_iff_ne.mpr c17
    have c17b1 : (a0_0 != 3) = true := bne_iff_ne.mpr c17
    by_cases c18 : a0_0 = 2
    ·rw [if_pos c18] at H
     have c18b0 : (a0_0 == 2) = true := beq_iff_eq.mpr c18
     have c18b1 : (a0_0 != 2) = false := bne_eq_false_iff_eq.mpr c18
     clear c18
     have H' := Aside0.mk H
     clear H
     go_wp2
     go_meet
     case rel => exact ⟨_, (255), zF, H', ⟨by first | omega | exact Nat.le_refl _⟩, ⟨zK BK166⟩, ⟨zK BK167⟩, ⟨zB HB⟩⟩
    ·rw [if_neg c18] at H
     have c18b0 : (a0_0 == 2) = false := beq_eq_false_iff_ne.mpr c18
     have c18b1 : (a0_0 != 2) = true := bne_iff_ne.mpr c18
     obtain rfl := Option.some.inj H
     go_wp2
     go_ret
     exact ⟨zE, zB HB⟩
 case rest =>
  clear HC3
  try clear c1
  try clear p2
  try clear c4
  try clear c5
  try clear c6
  try clear c8
  try clear c8b0
  try clear c8b1
  try clear c10
  try clear c11
  try clear c14
  try clear c17
  try clear c17b0
  try clear c17b1
  try clear c18
  try clear c18b0
  try clear c18b1
  try clear hcz12_0
  try clear hcz12_1
  try clear hcz13_0
  try clear hcz13_1
  try clear hcz13_2
  try clear hcz13_3
  try clear hcz15_0
  try clear hcz15_1
  try clear hcz16_0
  try clear hcz16_1
  try clear hcz16_2
  try clear hcz16_3
  try clear hcz7_0
  try clear hcz7_1
  try clear hcz7_2
  try clear hcz7_3
  try clear hfz12_0
  try clear hfz12_1
  try clear hfz13_0
  try clear hfz13_1
  try clear hfz13_2
  try clear hfz13_3
  try clear hfz15_0
  try clear hfz15_1
  try clear hfz16_0
  try clear hfz16_1
  try clear hfz16_2
  try clear hfz16_3
  try clear hfz7_0
  try clear hfz7_1
  try clear hfz7_2
  try clear hfz7_3
  obtain ⟨kq, x5_2, rfl, HA, HJ2, BK166, BK167, HB⟩ := hcut
  cases kq with
  | zero => exact absurd HA.out (by simp [spec_FitsField.j0])
  | succ kj2 =>
   have H := HA.out
   clear HA
   simp only [spec_FitsField.j0] at H
   have H' := Aside0.mk H
   clear H
   go_wp2
   go_loopg [6] kj2 (fun kq v6 w' => ∃ (x6_2 : Int), v6 = .int .i64 x6_2 ∧ Aside0 (spec_FitsField.l0 kq x5_2 x6_2 a0_0 a0_1 a0_2 a0_3 a1_0 l1_1 = some r) ∧ Aside0 (kq ≤ kj2) ∧ Aside0 (w'.heap[gb166]? = some (.cells #[.int .i64 a0_0, .int .i64 a0_1, .int .i64 a0_2, .int .i64 a0_3] 47 (0, 0))) ∧ Aside0 (w'.heap[gb167]? = some (.cells #[.int .i64 a1_0, (.slice A1_1 l1_1.length c1_1)] 58 (0, 0))) ∧ Aside0 (Below w.heap.size w w'))
   case atStart => exact ⟨(0), zF, H', ⟨Nat.le_refl _⟩, ⟨zK BK166⟩, ⟨zK BK167⟩, ⟨zB HB⟩⟩
   case round =>
    clear H'
    try clear c1
    try clear p2
    try clear c4
    try clear c5
    try clear c6
    try clear c8
    try clear c8b0
    try clear c8b1
    try clear c10
    try clear c11
    try clear c14
    try clear c17
    try clear c17b0
    try clear c17b1
    try clear c18
    try clear c18b0
    try clear c18b1
    try clear hcz12_0
    try clear hcz12_1
    try clear hcz13_0
    try clear hcz13_1
    try clear hcz13_2
    try clear hcz13_3
    try clear hcz15_0
    try clear hcz15_1
    try clear hcz16_0
    try clear hcz16_1
    try clear hcz16_2
    try clear hcz16_3
    try clear hcz7_0
    try clear hcz7_1
    try clear hcz7_2
    try clear hcz7_3
    try clear hfz12_0
    try clear hfz12_1
    try clear hfz13_0
    try clear hfz13_1
    try clear hfz13_2
    try clear hfz13_3
    try clear hfz15_0
    try clear hfz15_1
    try clear hfz16_0
    try clear hfz16_1
    try clear hfz16_2
    try clear hfz16_3
    try clear hfz7_0
    try clear hfz7_1
    try clear hfz7_2
    try clear hfz7_3
    try clear p2
    obtain ⟨x6_2, rfl, HA, HK2, BK166, BK167, HB⟩ := hrel
    cases gk with
    | zero => exact absurd HA.out (by simp [spec_FitsField.l0])
    | succ k2 =>
     have H := HA.out
     clear HA
     simp only [spec_FitsField.l0] at H
     by_cases c19 : x6_2 < (l1_1.length : Int)
     ·rw [if_pos c19] at H
      have c19b0 : decide (x6_2 < (l1_1.length : Int)) = true := decide_eq_true c19
      clear c19
      obtain ⟨c20, H⟩ := ifS H
      have c20b0 : decide (0 ≤ x6_2) = true := decide_eq_true c20
      clear c20
      obtain ⟨t170, A21, H⟩ := bindS H
      by_cases c22 : t170 = true
      ·subst c22
       have H1 : (spec_FitsField.l0 k2 x5_2 (wrap64 (x6_2 + 1)) a0_0 a0_1 a0_2 a0_3 a1_0 l1_1) = some r := by rw [if_pos rfl] at H; exact H
       clear H
       have H := H1
       clear H1
       have H' := Aside0.mk H
       clear H
       have hnb23 := NB167_166.out
       have hnc23 := NB166_167.out
       have hcz24_0 := bc0 BK167
       have hcz24_1 := bc1 BK167
       have hfz24_0 := bf BK167 0
       have hfz24_1 := bf BK167 1
       have p169 : 0 ≤ (x6_2 : Int) := zD
       have q169 : x6_2 < (l1_1.length : Int) := zD
       obtain ⟨ad169, e169, hx169_0⟩ := Kd.at_int HR1_1.out x6_2 p169 q169
       cases e169
       replace hx169_0 := hL HB hx169_0
       replace p169 := eq_true p169
       replace q169 := eq_true q169
       go_wp2_with (first | ((with_reducible refine gate_callee (f := 49) rfl ?_); refine goesL_ (some 39) rfl rfl Try.func49 (by kernel_rfl) rfl #[.int .i64 (rd l1_1 x6_2), .int .i64 0, .int .i64 x5_2] rfl zG ?_; (with_reducible refine (spec_l1In.calls (rd l1_1 x6_2) 0 x5_2 true _ A21.out).mono ?_); rintro e w' ⟨rfl, ⟨nd, rfl⟩⟩; refine ⟨_, rfl, ?_⟩))
       go_roundg k2
       case measure => have := HJ2.out; have := HK2.out; omega
       case rel => exact ⟨(wrap64 (x6_2 + 1)), zF, H', ⟨by have := HJ2.out; have := HK2.out; omega⟩, ⟨zK BK166⟩, ⟨zK BK167⟩, ⟨zB HB⟩⟩
      ·replace c22 := Bool.eq_false_iff.mpr c22
       subst c22
       have H1 : (some false) = some r := by rw [if_neg (show ¬ (false = true) by decide)] at H; exact H
       clear H
       have H := H1
       clear H1
       obtain rfl := Option.some.inj H
       have hnb25 := NB167_166.out
       have hnc25 := NB166_167.out
       have hcz26_0 := bc0 BK167
       have hcz26_1 := bc1 BK167
       have hfz26_0 := bf BK167 0
       have hfz26_1 := bf BK167 1
       have p169 : 0 ≤ (x6_2 : Int) := zD
       have q169 : x6_2 < (l1_1.length : Int) := zD
       obtain ⟨ad169, e169, hx169_0⟩ := Kd.at_int HR1_1.out x6_2 p169 q169
       cases e169
       replace hx169_0 := hL HB hx169_0
       replace p169 := eq_true p169
       replace q169 := eq_true q169
       go_wp2_with (first | ((with_reducible refine gate_callee (f := 49) rfl ?_); refine goesL_ (some 39) rfl rfl Try.func49 (by kernel_rfl) rfl #[.int .i64 (rd l1_1 x6_2), .int .i64 0, .int .i64 x5_2] rfl zG ?_; (with_reducible refine (spec_l1In.calls (rd l1_1 x6_2) 0 x5_2 false _ A21.out).mono ?_); rintro e w' ⟨rfl, ⟨nd, rfl⟩⟩; refine ⟨_, rfl, ?_⟩))
       go_ret
       exact ⟨zE, zB HB⟩
     ·rw [if_neg c19] at H
      have c19b0 : decide (x6_2 < (l1_1.length : Int)) = false := decide_eq_false c19
      clear c19
      by_cases c27 : a1_0 = 0
      ·rw [if_pos c27] at H
       have c27b0 : (a1_0 == 0) = true := beq_iff_eq.mpr c27
       have c27b1 : (a1_0 != 0) = false := bne_eq_false_iff_eq.mpr c27
       clear c27
       obtain rfl := Option.some.inj H
       have hnb28 := NB167_166.out
       have hnc28 := NB166_167.out
       have hcz29_0 := bc0 BK167
       have hcz29_1 := bc1 BK167
       have hfz29_0 := bf BK167 0
       have hfz29_1 := bf BK167 1
       have hcz30_0 := bc0 BK166
       have hcz30_1 := bc1 BK166
       have hcz30_2 := bc2 BK166
       have hcz30_3 := bc3 BK166
       have hfz30_0 := bf BK166 0
       have hfz30_1 := bf BK166 1
       have hfz30_2 := bf BK166 2
       have hfz30_3 := bf BK166 3
       go_wp2
       go_ret
       exact ⟨zE, zB HB⟩
      ·rw [if_neg c27] at H
       have c27b0 : (a1_0 == 0) = false := beq_eq_false_iff_ne.mpr c27
       have c27b1 : (a1_0 != 0) = true := bne_iff_ne.mpr c27
       obtain rfl := Option.some.inj H
       have hnb31 := NB167_166.out
       have hnc31 := NB166_167.out
       have hcz32_0 := bc0 BK167
       have hcz32_1 := bc1 BK167
       have hfz32_0 := bf BK167 0
       have hfz32_1 := bf BK167 1
       go_wp2
       go_ret
       exact ⟨zE, zB HB⟩

end Go.Proofs.Yticpmgofegaaeaa.PFnExactLostBy
