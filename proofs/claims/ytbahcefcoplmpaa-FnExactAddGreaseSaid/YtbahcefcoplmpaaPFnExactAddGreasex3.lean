-- WRITTEN by pp.py, this session's own wrapper around the print; not trusted: Lean checks it
import Derived.Test.YtbahcefcoplmpaaPFnExactAddGreasex0
import Derived.Test.YtbahcefcoplmpaaPFnExactAddGreasex1
import Derived.Test.YtbahcefcoplmpaaPFnExactAddGreasex2
namespace Go.Proofs.Ytbahcefcoplmpaa.PFnExactAddGrease
open Go.RowKit Go.Proofs.Ytbahcefcoplmpaa.Hw Go.Proofs.YtbahcefcoplmpaaW.PrintWords Go.Proofs.YtbahcefcoplmpaaW.PrintLast Go.Proofs.YtbahcefcoplmpaaW.PrintMore
attribute [local go_sem] max2_int min2_int max_two min_two max_three min_three max_four min_four   -- for this text's walks alone
set_option linter.unusedVariables false
set_option linter.unusedSimpArgs false
set_option linter.unusedSectionVars false

/-! ### spec_AddGrease: function 6 -/
mutual
def spec_AddGrease.j0 : Nat → List (S46) → Int → Int → List (S46) → Bool → Option ((List (S46)))
 | 0, _, _, _, _, _ => none
 | k + 1, x0, x1, x5, x6, x27 => if x27 = true then (some x6) else ((spec_PickOf.f k x1 2 3).bind fun t161 => (spec_AddGrease.l0 k x0 x1 x6 t161 x5 ([] : List Int)))
def spec_AddGrease.l0 : Nat → List (S46) → Int → List (S46) → Int → Int → List Int → Option ((List (S46)))
 | 0, _, _, _, _, _, _ => none
 | k + 1, x0, x1, x6, x8, x161000, x161001 => if x8 > 0 then ((spec_PickOf.f k x1 3 256).bind fun t162 => ((some (([t162] : List Int) : List Int)).bind fun y163 => (if x161001.length + y163.length < 17592186044416 then (spec_AddGrease.l0 k x0 x1 x6 (wrap64 (x8 - 1)) x161000 (x161001 ++ y163)) else (none)))) else ((spec_PickOf.f k x1 1 (wrap64 ((x0.length : Int) + 1))).bind fun t169 => ((some (([] : List (S46)) : List (S46))).bind fun y170 => (if 0 ≤ t169 then (if t169 ≤ (x6.length : Int) then ((some (x6.take (t169 : Int).toNat : List (S46))).bind fun y173 => (if y170.length + y173.length < 4398046511104 then ((some (y170 ++ y173 : List (S46))).bind fun y178 => ((some (([(⟨x161000, x161001⟩ : S46)] : List (S46)) : List (S46))).bind fun y181 => (if y178.length + y181.length < 4398046511104 then ((some (y178 ++ y181 : List (S46))).bind fun y184 => ((some (x6.drop (t169 : Int).toNat : List (S46))).bind fun y187 => (if y184.length + y187.length < 4398046511104 then (some (y184 ++ y187)) else (none)))) else (none)))) else (none))) else (none)) else (none))))
end
def spec_AddGrease.f (k : Nat) (l0 : List (S46)) (a1 : Int) : Option ((List (S46))) := (spec_GreaseTag.f k a1).bind fun t154 => ((spec_l11Copy.f k l0).bind fun t155 => ((spec_AreExts.f k l0).bind fun t158 => (if t158 = true then (if (l0.length : Int) ≥ 6 then (spec_AddGrease.j0 k l0 a1 t154 t155 true) else ((spec_ExtOf.f k l0 t154).bind fun t159 => (spec_AddGrease.j0 k l0 a1 t154 t155 (decide (t159 ≥ 0))))) else (spec_AddGrease.j0 k l0 a1 t154 t155 true))))
theorem spec_AddGrease.mono_l : ∀ k, (∀ y0 y1 y2 y3 y4, LeO (spec_AddGrease.j0 k y0 y1 y2 y3 y4) (spec_AddGrease.j0 (k + 1) y0 y1 y2 y3 y4)) ∧ (∀ y0 y1 y2 y3 y4 y5, LeO (spec_AddGrease.l0 k y0 y1 y2 y3 y4 y5) (spec_AddGrease.l0 (k + 1) y0 y1 y2 y3 y4 y5))
 | 0 => ⟨fun _ _ _ _ _ r h => by simp [spec_AddGrease.j0] at h, fun _ _ _ _ _ _ r h => by simp [spec_AddGrease.l0] at h⟩
 | k + 1 => by
  obtain ⟨ih0, ih1⟩ := spec_AddGrease.mono_l k
  refine ⟨?_, ?_⟩
  ·intro y0 y1 y2 y3 y4
   unfold spec_AddGrease.j0
   repeat' first
   | (with_reducible exact ih0 _ _ _ _ _)
   | (with_reducible exact ih1 _ _ _ _ _ _)
   | (with_reducible exact spec_AreExts.mono _ _)
   | (with_reducible exact spec_ExtOf.mono _ _ _)
   | (with_reducible exact spec_GreaseTag.mono _ _)
   | (with_reducible exact spec_PickOf.mono _ _ _ _)
   | (with_reducible exact spec_l11Copy.mono _ _)
   | (with_reducible exact LeO.refl _)
   | (with_reducible exact LeO.none _)
   | (with_reducible refine LeO.ite ?_ ?_)
   | (with_reducible refine LeO.bind ?_ (fun _ => ?_))
   | exact ih0 _ _ _ _ _
   | exact ih1 _ _ _ _ _ _
   | exact spec_AreExts.mono _ _
   | exact spec_ExtOf.mono _ _ _
   | exact spec_GreaseTag.mono _ _
   | exact spec_PickOf.mono _ _ _ _
   | exact spec_l11Copy.mono _ _
   | exact LeO.none _
   | refine LeO.ite ?_ ?_
   | refine LeO.bind ?_ (fun _ => ?_)
  ·intro y0 y1 y2 y3 y4 y5
   unfold spec_AddGrease.l0
   repeat' first
   | (with_reducible exact ih0 _ _ _ _ _)
   | (with_reducible exact ih1 _ _ _ _ _ _)
   | (with_reducible exact spec_AreExts.mono _ _)
   | (with_reducible exact spec_ExtOf.mono _ _ _)
   | (with_reducible exact spec_GreaseTag.mono _ _)
   | (with_reducible exact spec_PickOf.mono _ _ _ _)
   | (with_reducible exact spec_l11Copy.mono _ _)
   | (with_reducible exact LeO.refl _)
   | (with_reducible exact LeO.none _)
   | (with_reducible refine LeO.ite ?_ ?_)
   | (with_reducible refine LeO.bind ?_ (fun _ => ?_))
   | exact ih0 _ _ _ _ _
   | exact ih1 _ _ _ _ _ _
   | exact spec_AreExts.mono _ _
   | exact spec_ExtOf.mono _ _ _
   | exact spec_GreaseTag.mono _ _
   | exact spec_PickOf.mono _ _ _ _
   | exact spec_l11Copy.mono _ _
   | exact LeO.none _
   | refine LeO.ite ?_ ?_
   | refine LeO.bind ?_ (fun _ => ?_)
theorem spec_AddGrease.mono : ∀ a0 a1 k, LeO (spec_AddGrease.f k a0 a1) (spec_AddGrease.f (k + 1) a0 a1) := by
 intro a0 a1 k
 obtain ⟨ih0, ih1⟩ := spec_AddGrease.mono_l k
 unfold spec_AddGrease.f
 repeat' first
   | (with_reducible exact ih0 _ _ _ _ _)
   | (with_reducible exact ih1 _ _ _ _ _ _)
   | (with_reducible exact spec_AreExts.mono _ _)
   | (with_reducible exact spec_ExtOf.mono _ _ _)
   | (with_reducible exact spec_GreaseTag.mono _ _)
   | (with_reducible exact spec_PickOf.mono _ _ _ _)
   | (with_reducible exact spec_l11Copy.mono _ _)
   | (with_reducible exact LeO.refl _)
   | (with_reducible exact LeO.none _)
   | (with_reducible refine LeO.ite ?_ ?_)
   | (with_reducible refine LeO.bind ?_ (fun _ => ?_))
   | exact ih0 _ _ _ _ _
   | exact ih1 _ _ _ _ _ _
   | exact spec_AreExts.mono _ _
   | exact spec_ExtOf.mono _ _ _
   | exact spec_GreaseTag.mono _ _
   | exact spec_PickOf.mono _ _ _ _
   | exact spec_l11Copy.mono _ _
   | exact LeO.none _
   | refine LeO.ite ?_ ?_
   | refine LeO.bind ?_ (fun _ => ?_)
def spec_AddGrease.T9 : Bool × List (List Nat × List Nat) := (true, [([], []), ([0], [0]), ([], []), ([2], [2]), ([3], [3]), ([1, 4, 3], [1, 4]), ([0, 1, 2, 3, 4, 5], []), ([6, 5, 5, 0, 1, 2, 3, 4, 5], [5, 6])])
def spec_AddGrease.B9 : List Nat := [0, 1, 0, 4, 12, 31, 63, 127]
theorem spec_AddGrease.tab9 : rtab .any (opsOf Try.f6 9) = spec_AddGrease.T9 := by kernel_rfl
theorem spec_AddGrease.bits9 : waitsOk spec_AddGrease.T9.2 spec_AddGrease.B9 = true := by kernel_rfl
def spec_AddGrease.T11 : Bool × List (List Nat × List Nat) := (true, [([], []), ([], []), ([], []), ([1, 2], [1, 2]), ([0, 3], [0, 3]), ([], []), ([5], [5]), ([4, 6, 4], [4, 6]), ([], []), ([], []), ([8, 9], [8, 9]), ([7, 10, 7], [7, 10]), ([11, 11, 0, 1, 2, 3, 4, 5, 6, 7, 8, 9, 10, 11], [11])])
def spec_AddGrease.B11 : List Nat := [0, 0, 0, 6, 15, 0, 32, 127, 0, 0, 768, 2047, 4095]
theorem spec_AddGrease.tab11 : rtab .any (opsOf Try.f6 11) = spec_AddGrease.T11 := by kernel_rfl
theorem spec_AddGrease.bits11 : waitsOk spec_AddGrease.T11.2 spec_AddGrease.B11 = true := by kernel_rfl
set_option maxHeartbeats 8000000 in
set_option maxRecDepth 100000 in
theorem spec_AddGrease.calls (k : Nat) (A0 : Option Addr) (c0 : Nat) (l0 : List (S46)) (a1 : Int) (r : List (S46)) (w : World) (hr0 : Kd.C k46 w A0 l0.length l0) (hc0 : l0.length ≤ c0) (h : spec_AddGrease.f k l0 a1 = some r) :
  Calls Try.prog 6 #[.slice A0 l0.length c0, .int .i64 a1] w fun e w' => ∃ v0_ : Value, e = .returned (v0_) ∧ Kd.N k46 46 w' w.heap.size (fun k_ => (w.heap.size ≤ k_)) v0_ r ∧ Below w.heap.size w w' := by
 have hu46 := Try.underlying46
 have HR0 := Aside0.mk hr0
 have HC0 := Aside0.mk hc0
 clear hr0 hc0
 have HB := Aside0.mk (Below.refl w.heap.size w)
 have H : ((spec_GreaseTag.f k a1).bind fun t154 => ((spec_l11Copy.f k l0).bind fun t155 => ((spec_AreExts.f k l0).bind fun t158 => (if t158 = true then (if (l0.length : Int) ≥ 6 then (spec_AddGrease.j0 k l0 a1 t154 t155 true) else ((spec_ExtOf.f k l0 t154).bind fun t159 => (spec_AddGrease.j0 k l0 a1 t154 t155 (decide (t159 ≥ 0))))) else (spec_AddGrease.j0 k l0 a1 t154 t155 true))))) = some r := h
 clear h
 obtain ⟨t154, A3, H⟩ := bindS H
 obtain ⟨t155, A4, H⟩ := bindS H
 have HC5 := Aside0.mk H
 clear H
 go_enter Try.func6, Try.ntmps6
 go_upto_region 3 with (first | ((with_reducible refine gate_callee (f := 26) rfl ?_); refine goesL_ (some 11) rfl rfl Try.func26 (by kernel_rfl) rfl #[.int .i64 a1] rfl zG ?_; (with_reducible refine (spec_GreaseTag.calls k a1 t154 _ A3.out).mono ?_); rintro e w6 ⟨rfl, hb⟩; refine ⟨_, rfl, ?_⟩; replace HB := bS HB hb; (try clear hb)) | ((with_reducible refine gate_callee (f := 27) rfl ?_); refine goesL_ (some 13) rfl rfl Try.func27 (by kernel_rfl) rfl #[.slice A0 l0.length c0] rfl zG ?_; (with_reducible refine (spec_l11Copy.calls k _ _ l0 t155 _ ?side1 ?side2 A4.out).mono ?_); (case side1 => exact cS HR0 HB); (case side2 => exact HC0.out); rintro e w7 ⟨v156, rfl, ho0, hb⟩; refine ⟨_, rfl, ?_⟩; have HO157 := Aside0.mk (Kd.N_lower (Kd.N_mono (ok' := fun k_ => (w.heap.size ≤ k_)) (Kd.S_N (Kd.S_bound ho0)) (fun k_ hk_ => (Nat.le_trans (below_size (zB HB)) hk_.2.1))) (below_size (zB HB))); replace HB := bS HB hb; (try clear hb); (try clear ho0)))
 (try simp only [Act.put, List.setIfInBounds_toArray, List.set_cons_zero, List.set_cons_succ])
 go_cut [27] (fun v27 wc => ∃ (kq : Nat) (x27_4 : Bool), v27 = .bool x27_4 ∧ Aside0 (spec_AddGrease.j0 kq l0 a1 t154 t155 x27_4 = some r) ∧ Aside0 (kq ≤ k) ∧ Aside0 (Kd.N k46 46 wc w.heap.size (fun k_ => (w.heap.size ≤ k_)) v156 t155) ∧ Aside0 (Below w.heap.size w wc))
 case first =>
  have H := HC5.out
  clear HC5
  obtain ⟨t158, A8, H⟩ := bindS H
  by_cases c9 : t158 = true
  ·subst c9
   have H1 : (if (l0.length : Int) ≥ 6 then (spec_AddGrease.j0 k l0 a1 t154 t155 true) else ((spec_ExtOf.f k l0 t154).bind fun t159 => (spec_AddGrease.j0 k l0 a1 t154 t155 (decide (t159 ≥ 0))))) = some r := by rw [if_pos rfl] at H; exact H
   clear H
   have H := H1
   clear H1
   by_cases c10 : (l0.length : Int) ≥ 6
   ·rw [if_pos c10] at H
    have c10b0 : decide (6 ≤ (l0.length : Int)) = true := decide_eq_true c10
    have c10b1 : decide (6 ≤ l0.length) = true := decide_eq_true (by omega)
    clear c10
    (first | rw [c10b0] | (simp only [i64_w, i32_w]; rw [c10b0]) | skip)
    have H' := Aside0.mk H
    clear H
    go_wp2_with (first | ((with_reducible refine gate_callee (f := 28) rfl ?_); refine goesL_ (some 15) rfl rfl Try.func28 (by kernel_rfl) rfl #[.slice A0 l0.length c0] rfl zG ?_; (with_reducible refine (spec_AreExts.calls k _ _ l0 true _ ?side1 ?side2 A8.out).mono ?_); (case side1 => exact cS HR0 HB); (case side2 => exact HC0.out); rintro e w' ⟨rfl, ⟨nd, rfl⟩⟩; refine ⟨_, rfl, ?_⟩))
    go_meet
    case rel => exact ⟨_, (true), zF, H', ⟨by first | omega | exact Nat.le_refl _⟩, ⟨by (with_reducible repeat (first | apply Kd.N_alloc | apply Kd.N_drewN | apply Kd.N_drew)); exact HO157.out⟩, ⟨zB HB⟩⟩
   ·rw [if_neg c10] at H
    have c10b0 : decide (6 ≤ (l0.length : Int)) = false := decide_eq_false c10
    have c10b1 : decide (6 ≤ l0.length) = false := decide_eq_false (by omega)
    clear c10
    (first | rw [c10b0] | (simp only [i64_w, i32_w]; rw [c10b0]) | skip)
    obtain ⟨t159, A11, H⟩ := bindS H
    have H' := Aside0.mk H
    clear H
    go_wp2_with (first | ((with_reducible refine gate_callee (f := 28) rfl ?_); refine goesL_ (some 15) rfl rfl Try.func28 (by kernel_rfl) rfl #[.slice A0 l0.length c0] rfl zG ?_; (with_reducible refine (spec_AreExts.calls k _ _ l0 true _ ?side1 ?side2 A8.out).mono ?_); (case side1 => exact cS HR0 HB); (case side2 => exact HC0.out); rintro e w' ⟨rfl, ⟨nd, rfl⟩⟩; refine ⟨_, rfl, ?_⟩) | (go_at_call 29; (with_reducible refine (spec_ExtOf.calls k _ _ l0 t154 t159 _ ?side1 ?side2 A11.out).mono ?_); (case side1 => repeat (first | exact (Kd.C_below HR0.out (zB HB)) | (with_reducible refine Kd.C_alloc ?_ _) | (with_reducible refine Kd.C_drewN ?_ _) | (with_reducible refine Kd.C_drew ?_))); (case side2 => exact HC0.out); rintro e w' ⟨rfl, ⟨nd, rfl⟩⟩))
    go_meet
    case rel => exact ⟨_, (decide (t159 ≥ 0)), zF, H', ⟨by first | omega | exact Nat.le_refl _⟩, ⟨by (with_reducible repeat (first | apply Kd.N_alloc | apply Kd.N_drewN | apply Kd.N_drew)); exact HO157.out⟩, ⟨zB HB⟩⟩
  ·replace c9 := Bool.eq_false_iff.mpr c9
   subst c9
   have H1 : (spec_AddGrease.j0 k l0 a1 t154 t155 true) = some r := by rw [if_neg (show ¬ (false = true) by decide)] at H; exact H
   clear H
   have H := H1
   clear H1
   have H' := Aside0.mk H
   clear H
   go_wp2_with (first | ((with_reducible refine gate_callee (f := 28) rfl ?_); refine goesL_ (some 15) rfl rfl Try.func28 (by kernel_rfl) rfl #[.slice A0 l0.length c0] rfl zG ?_; (with_reducible refine (spec_AreExts.calls k _ _ l0 false _ ?side1 ?side2 A8.out).mono ?_); (case side1 => exact cS HR0 HB); (case side2 => exact HC0.out); rintro e w' ⟨rfl, ⟨nd, rfl⟩⟩; refine ⟨_, rfl, ?_⟩))
   go_meet
   case rel => exact ⟨_, (true), zF, H', ⟨by first | omega | exact Nat.le_refl _⟩, ⟨by (with_reducible repeat (first | apply Kd.N_alloc | apply Kd.N_drewN | apply Kd.N_drew)); exact HO157.out⟩, ⟨zB HB⟩⟩
 case rest =>
  clear HC5
  try clear c1
  try clear c2
  try clear p2
  try clear c6
  try clear c9
  try clear c10
  try clear c10b0
  try clear c10b1
  obtain ⟨kq, x27_4, rfl, HA, HJ4, HO_6, HB⟩ := hcut
  cases kq with
  | zero => exact absurd HA.out (by simp [spec_AddGrease.j0])
  | succ kj4 =>
   have H := HA.out
   clear HA
   simp only [spec_AddGrease.j0] at H
   by_cases c12 : x27_4 = true
   ·subst c12
    have H1 : (some t155) = some r := by rw [if_pos rfl] at H; exact H
    clear H
    have H := H1
    clear H1
    obtain rfl := Option.some.inj H
    go_wp2
    go_ret
    exact ⟨_, zE, by (with_reducible repeat (first | apply Kd.N_alloc | apply Kd.N_drewN | apply Kd.N_drew)); exact HO_6.out, zB HB⟩
   ·replace c12 := Bool.eq_false_iff.mpr c12
    subst c12
    have H1 : ((spec_PickOf.f kj4 a1 2 3).bind fun t161 => (spec_AddGrease.l0 kj4 l0 a1 t155 t161 t154 ([] : List Int))) = some r := by rw [if_neg (show ¬ (false = true) by decide)] at H; exact H
    clear H
    have H := H1
    clear H1
    obtain ⟨t161, A13, H⟩ := bindS H
    have H' := Aside0.mk H
    clear H
    go_wp2_with (first | ((with_reducible refine gate_dst (N := 7) rfl ?_); (try (refine gate_guard (by rfl) ?_; dsimp only)); refine box_event ?hg (N := 7) ?hd (cs := #[.int .i64 0, .slice none 0 0]) (t := 46) ?hr ?_; (case hd => rfl); (case hg => rfl); (case hr => first | (go_simp; done) | (go_simp; rfl)); intro gb160 hg w14 hbox hb; replace HO_6 := Aside0.mk (Kd.N_below (Kd.N_elderB (by (with_reducible repeat (first | apply Kd.N_alloc | apply Kd.N_drewN | apply Kd.N_drew)); exact HO_6.out) gb160 (Nat.le_of_eq hg.symm)) hb); have BK160 := Aside0.mk (hbox); have GW160 := gS HB hg; have GE160 := gS HB hg; replace HB := bS HB hb; clear hb hbox hg; have hcz15_0 := bc0 BK160; have hcz15_1 := bc1 BK160; have hfz15_0 := bf BK160 0; have hfz15_1 := bf BK160 1) | ((with_reducible refine gate_callee (f := 30) rfl ?_); refine goesL_ (some 32) rfl rfl Try.func30 (by kernel_rfl) rfl #[.int .i64 a1, .int .i64 2, .int .i64 3] rfl zG ?_; (with_reducible refine (spec_PickOf.calls kj4 a1 2 3 t161 _ A13.out).mono ?_); rintro e w16 ⟨rfl, hb⟩; refine ⟨_, rfl, ?_⟩; replace HO_6 := Aside0.mk (Kd.N_below (by (with_reducible repeat (first | apply Kd.N_alloc | apply Kd.N_drewN | apply Kd.N_drew)); exact (Kd.N_mono (Kd.N_far (p := ⟨gb160, 1, none⟩) (Kd.N_far (p := ⟨gb160, 0, none⟩) (Kd.N_mono HO_6.out (fun k_ hk => (⟨hk, hk.2⟩ : _ ∧ k_ ≠ gb160))) (fun _ hk => hk.2) (.int .i64 t154)) (fun _ hk => hk.2) (.slice none 0 0)) (fun _ h_ => h_.1))) hb); replace BK160 := Aside0.mk (blk_below (g := gb160) (o := .cells #[.int .i64 t154, .slice none 0 0] 46 (0, 0)) (by (with_reducible repeat (first | refine blk_drewN ?_ _ | refine blk_drew ?_ | refine blk_alloc ?_ _)); refine blk_put (cs := #[.int .i64 t154, .slice none 0 0]) ?_ 1 _ rfl; (with_reducible repeat (first | refine blk_drewN ?_ _ | refine blk_drew ?_ | refine blk_alloc ?_ _)); refine blk_put (cs := #[.int .i64 0, .slice none 0 0]) ?_ 0 _ rfl; (with_reducible repeat (first | refine blk_drewN ?_ _ | refine blk_drew ?_ | refine blk_alloc ?_ _)); exact BK160.out) hb); replace HB := bS HB hb; (try clear hb)))
    go_loopg [8] kj4 (fun kq v8 w' => ∃ (x8_2 : Int) (x161001_2 : List Int) (u161001 : Value), v8 = .int .i64 x8_2 ∧ Aside0 (spec_AddGrease.l0 kq l0 a1 t155 x8_2 t154 x161001_2 = some r) ∧ Aside0 (kq ≤ kj4) ∧ Aside0 (Kd.N k46 46 w' w.heap.size (fun k_ => (w.heap.size ≤ k_) ∧ some k_ ≠ (u161001 : Value).ownBlock ∧ k_ ≠ gb160) v156 t155) ∧ Aside0 (Kd.R (Kd.int .i64) 3 w' w.heap.size (fun k_ => (w.heap.size ≤ k_)) u161001 x161001_2) ∧ Aside0 (w'.heap[gb160]? = some (.cells #[.int .i64 t154, u161001] 46 (0, 0))) ∧ Aside0 (Below w.heap.size w w'))
    case atStart => exact ⟨(t161), (([] : List Int)), (.slice none 0 0), zF, H', ⟨Nat.le_refl _⟩, ⟨by (with_reducible repeat (first | apply Kd.N_alloc | apply Kd.N_drewN | apply Kd.N_drew)); exact Kd.N_mono HO_6.out (fun _ hk => ⟨hk.1, ⟨(by simp [Value.ownBlock]), hk.2⟩⟩)⟩, ⟨by first | exact Kd.R_nil _ _ _ _ _ | exact Kd.N_nil _ _ _ _ _ | exact Kd.V_nil _ _ _ _ _ | exact Kd.Q_nil _ _ _ _ _ | exact Kd.S_nil _ _ _ _ _⟩, ⟨zK BK160⟩, ⟨zB HB⟩⟩
    case round =>
     clear H'
     try clear c1
     try clear c2
     try clear p2
     try clear c3
     try clear c6
     try clear c9
     try clear c10
     try clear c10b0
     try clear c10b1
     try clear c12
     try clear hcz15_0
     try clear hcz15_1
     try clear hfz15_0
     try clear hfz15_1
     try clear p2
     obtain ⟨x8_2, x161001_2, u161001, rfl, HA, HK2, HO_6, HO_161001, BK160, HB⟩ := hrel
     cases gk with
     | zero => exact absurd HA.out (by simp [spec_AddGrease.l0])
     | succ k2 =>
      have H := HA.out
      clear HA
      simp only [spec_AddGrease.l0] at H
      by_cases c17 : x8_2 > 0
      ·rw [if_pos c17] at H
       have c17b0 : decide (0 < x8_2) = true := decide_eq_true c17
       clear c17
       obtain ⟨t162, A18, H⟩ := bindS H
       obtain ⟨y163, hy163⟩ : ∃ y_ : List Int, y_ = (([t162] : List Int)) := ⟨_, rfl⟩
       replace H : (if x161001_2.length + y163.length < 17592186044416 then (spec_AddGrease.l0 k2 l0 a1 t155 (wrap64 (x8_2 - 1)) t154 (x161001_2 ++ y163)) else (none)) = some r := by first | (rw [hy163]; with_reducible exact H) | (have H2_ := (Option.bind_some _ _).symm.trans H; rw [hy163]; with_reducible exact H2_) | (have H2_ := (Option.bind_some _ _).symm.trans H; with_reducible exact H2_) | with_reducible exact H | (rw [hy163]; exact H) | exact H
       have Ny163 := Aside0.mk hy163
       clear hy163
       obtain ⟨c19, H⟩ := ifS H
       have LMc19 := Aside0.mk c19
       clear c19
       obtain ⟨y166, hy166⟩ : ∃ y_ : List Int, y_ = (x161001_2 ++ y163) := ⟨_, rfl⟩
       replace H : (spec_AddGrease.l0 k2 l0 a1 t155 (wrap64 (x8_2 - 1)) t154 y166) = some r := by first | (rw [hy166]; with_reducible exact H) | (have H2_ := (Option.bind_some _ _).symm.trans H; rw [hy166]; with_reducible exact H2_) | (have H2_ := (Option.bind_some _ _).symm.trans H; with_reducible exact H2_) | with_reducible exact H | (rw [hy166]; exact H) | exact H
       have Ny166 := Aside0.mk hy166
       clear hy166
       have H' := Aside0.mk H
       clear H
       try go_wp2
       replace HO_6 := Aside0.mk (Kd.N_drew HO_6.out)
       replace HO_161001 := Aside0.mk (Kd.R_drew HO_161001.out)
       replace BK160 := Aside0.mk (blk_drew BK160.out)
       replace HB := Aside0.mk (below_drew1 HB.out)
       refine start_ (n := 8) (S := fun w' => w'.cell? ⟨gb160, 0, none⟩ = some (.int .i64 t154) ∧ w'.cell? ⟨gb160, 1, none⟩ = some (u161001)) (ds := [7]) (bm 8 0) (by kernel_rfl) rfl (bm0 _) ⟨bc0 BK160, bc1 BK160⟩ (fun hHeld => ?_); refine with_tabW spec_AddGrease.tab9 spec_AddGrease.bits9 (fun HT_ HW_ => ?_)
       generalize wr.drew = w20 at HO_6 HO_161001 BK160 HB hHeld ⊢
       refine pU 0 (some 37) (bm 8 1) HT_ rfl rfl ?_
       refine pU 2 (some 39) (bm 8 5) HT_ rfl rfl ?_
       refine tU 1 (some 38) (bm 8 7) HT_ HW_ rfl rfl hHeld ?_
       refine one_ (i := 3) (N := some 40) (bm 8 15) rfl rfl (one_of HT_.out (by kernel_rfl)) (by decide) (fun K hK => ?_)
       refine goes_ Try.func30 (by kernel_rfl) rfl #[.int .i64 a1, .int .i64 3, .int .i64 256] (by rfl) rfl rfl zG ?_
       with_reducible refine (spec_PickOf.calls k2 a1 3 256 t162 _ A18.out).mono ?_
       rintro e w21 ⟨rfl, hb⟩
       refine ⟨_, rfl, ?_⟩
       replace HO_6 := Aside0.mk (Kd.N_below (by (with_reducible repeat (first | apply Kd.N_alloc | apply Kd.N_drewN | apply Kd.N_drew)); exact HO_6.out) hb)
       replace HO_161001 := Aside0.mk (Kd.R_below (zR HO_161001) hb)
       replace BK160 := kB BK160 hb
       replace HB := bS HB hb
       (try clear hb)
       (try clear hb2)
       (try clear hk)
       (try clear hi)
       refine hK.out _ _ ⟨bc0 BK160, bc1 BK160⟩ (fun hHeld => ?_)
       clear hK K
       refine norm_ (a' := ?_) ?_ ?_
       rotate_left
       ·show Act.put _ (some 40) _ = _
        simp only [Act.put, List.setIfInBounds_toArray, List.set_cons_zero, List.set_cons_succ, i64_w, i32_w]
        rfl
       refine one_ (i := 4) (N := some 41) (bm 8 31) rfl rfl (one_of HT_.out (by kernel_rfl)) (by decide) (fun K hK => ?_)
       refine Kd.R_lit_step (Kd.int .i64) _ 3 ?hg (N := 41) ?hd (xs := ([t162] : List Int)) (inner := [.int .i64 t162]) (ok := fun _ => True) (okp := fun _ => True) ?hr ?hp (fun _ hk => hk) trivial (Below.refl _ _) (Nat.le_refl _) (by simp) ?_; (case hd => rfl); (case hg => rfl); (case hr => first | (go_simp; done) | (go_simp; rfl)); (case hp => exact (Reps.one (show Kd.M (Kd.int .i64) _ _ _ t162 [.int .i64 t162] from rfl) (Reps.none _ _)))
       intro v164 w22 ho23 hb hg_ hnew_
       clear hg_ hnew_
       (first | rw [← Ny163.out] at ho23 | (simp only [Int.reduceToNat] at ho23; rw [← Ny163.out] at ho23))
       replace HO_6 := Aside0.mk (Kd.N_elder' (by (with_reducible repeat (first | apply Kd.N_alloc | apply Kd.N_drewN | apply Kd.N_drew)); exact HO_6.out) (Kd.R_base ho23) hb)
       have HO165 := Aside0.mk (Kd.R_lower (Kd.R_new' (Kd.R_newM (M := fun k_ => (w.heap.size ≤ k_)) ho23 (below_size (zB HB)) (fun k_ h_ => h_)) (Kd.R_lt (zR HO_161001))) (below_size (zB HB)))
       replace HO_161001 := Aside0.mk (Kd.R_elder' (zR HO_161001) (Kd.R_base ho23) hb)
       replace BK160 := kB BK160 hb
       replace HB := bS HB hb
       clear hb ho23
       obtain ⟨Ao25, co25, eo25⟩ := Kd.R_slice HO165.out
       (first | subst eo25 | (injection eo25 with f1_ f2_ f3_; have f4_ := f1_.symm; have f5_ := f3_.symm; clear f1_ f2_ f3_; subst f4_; subst f5_))
       refine hK.out _ _ ⟨bc0 BK160, bc1 BK160⟩ (fun hHeld => ?_)
       clear hK K
       refine norm_ (a' := ?_) ?_ ?_
       rotate_left
       ·show Act.put _ (some 41) _ = _
        simp only [Act.put, List.setIfInBounds_toArray, List.set_cons_zero, List.set_cons_succ, i64_w, i32_w]
        rfl
       refine one_ (i := 5) (N := some 42) (bm 8 63) rfl rfl (one_of HT_.out (by kernel_rfl)) (by decide) (fun K hK => ?_)
       refine Kd.R_append_rows_step (Kd.int .i64) (w0 := w) w.heap.size (by rfl) (.tmp 38) (.tmp 41) 38 3 (.int .i64 0) 8 rfl Try.underlying38 info3 rfl (by decide) (by omega) u161001 x161001_2 y163 _ _ _ (fun k_ => (w.heap.size ≤ k_) ∧ some k_ ≠ (.slice Ao25 y163.length co25 : Value).ownBlock) (fun _ => False) rfl rfl ?aO ?aR (fun _ _ h => h) (fun _ h => h.elim) ?aF ?aB ?aS ?aL ?_
       (case aR => repeat (first | exact (Kd.R_reads' HO165.out).2.2 | (with_reducible refine Kd.C_alloc ?_ _) | (with_reducible refine Kd.C_drewN ?_ _) | (with_reducible refine Kd.C_drew ?_)))
       (case aB => exact (zB HB))
       (case aF => exact (fun k_ hk => ⟨(Nat.le_trans (below_size (zB HB)) hk), Kd.fresh' (Kd.R_lt (zR HO165)) k_ hk⟩))
       (case aO => exact (zR HO_161001))
       (case aS => exact (below_size (zB HB)))
       (case aL => have := LMc19.out; omega)
       intro v167 w24 ho hb hg hat
       rw [← Ny166.out] at ho
       replace HO_6 := Aside0.mk (Kd.N_afterv (ok := (fun k_ => (w.heap.size ≤ k_) ∧ some k_ ≠ (.slice Ao25 y163.length co25 : Value).ownBlock ∧ k_ ≠ gb160)) (by (with_reducible repeat (first | apply Kd.N_alloc | apply Kd.N_drewN | apply Kd.N_drew)); exact Kd.N_mono HO_6.out (fun _ hk => ⟨⟨hk.1.1, ⟨hk.2, hk.1.2.2⟩⟩, hk.1.2.1⟩)) hg hat)
       replace BK160 := Aside0.mk (blk_grown (g := gb160) (o := .cells #[.int .i64 t154, u161001] 46 (0, 0)) (zK BK160) hg (Kd.R_ne HO_161001.out BK160.out (by decide)))
       replace HO165 := Aside0.mk (Kd.R_after (ok := (fun k_ => (w.heap.size ≤ k_))) (by (with_reducible repeat (first | apply Kd.R_alloc | apply Kd.R_drewN | apply Kd.R_drew)); exact Kd.R_mono HO165.out (fun _ hk => ⟨hk.1.1, hk.2⟩)) hg hat)
       replace HB := Aside0.mk (hb)
       have HO168 := Aside0.mk (ho)
       clear HO_161001
       clear ho hb hg hat
       obtain ⟨Ao26, co26, eo26⟩ := Kd.R_slice HO168.out
       (first | subst eo26 | (injection eo26 with f1_ f2_ f3_; have f4_ := f1_.symm; have f5_ := f3_.symm; clear f1_ f2_ f3_; subst f4_; subst f5_))
       refine hK.out _ _ ⟨bc0 BK160, bc1 BK160⟩ (fun hHeld => ?_)
       clear hK K
       refine norm_ (a' := ?_) ?_ ?_
       rotate_left
       ·show Act.put _ (some 42) _ = _
        simp only [Act.put, List.setIfInBounds_toArray, List.set_cons_zero, List.set_cons_succ, i64_w, i32_w]
        rfl
       refine pU 6 (some 43) (bm 8 127) HT_ rfl rfl ?_
       refine last_ (i := 7) (N := none) (bm 8 255) rfl rfl (one_of HT_.out (by kernel_rfl)) (by decide) (fun K hK => ?_)
       have hs27 : w24.cell? ⟨gb160, 1, none⟩ = some (u161001) := bc1 BK160
       have hfs27 := bf BK160 1
       refine skip_ (w1 := ?_) (by rfl) rfl ?_ ?_
       rotate_left
       ·go_simp
        rfl
       refine hK.out _ _ ?_
       clear hK K
       refine done_ (done_of HT_.out (by kernel_rfl)) ?_
       try clear hHeld
       try go_wp2
       go_roundg k2
       case measure => have := HJ4.out; have := HK2.out; omega
       case rel => exact ⟨(wrap64 (x8_2 - 1)), (y166), (.slice Ao26 y166.length co26), zF, H', ⟨by have := HJ4.out; have := HK2.out; omega⟩, ⟨by (with_reducible repeat (first | apply Kd.N_alloc | apply Kd.N_drewN | apply Kd.N_drew)); exact Kd.N_mono (Kd.N_far (p := ⟨gb160, 1, none⟩) (Kd.N_mono HO_6.out (fun k_ hk => (⟨hk, hk.1.2.2⟩ : _ ∧ k_ ≠ gb160))) (fun _ hk => hk.2) (.slice Ao26 y166.length co26)) (fun _ hk => ⟨hk.1.1.1, ⟨hk.1.2, hk.1.1.2.2⟩⟩)⟩, ⟨by (with_reducible repeat (first | apply Kd.R_alloc | apply Kd.R_drewN | apply Kd.R_drew)); exact Kd.R_mono (Kd.R_far (p := ⟨gb160, 1, none⟩) (Kd.R_types HO168.out BK160.out (by decide)) (fun _ hk => hk.2) (.slice Ao26 y166.length co26)) (fun _ hk => hk.1.1)⟩, ⟨by (with_reducible repeat (first | refine blk_drewN ?_ _ | refine blk_drew ?_ | refine blk_alloc ?_ _)); refine blk_put (cs := #[.int .i64 t154, u161001]) ?_ 1 _ rfl; (with_reducible repeat (first | refine blk_drewN ?_ _ | refine blk_drew ?_ | refine blk_alloc ?_ _)); exact BK160.out⟩, ⟨zB HB⟩⟩
      ·rw [if_neg c17] at H
       have c17b0 : decide (0 < x8_2) = false := decide_eq_false c17
       clear c17
       obtain ⟨t169, A28, H⟩ := bindS H
       obtain ⟨y170, hy170⟩ : ∃ y_ : List (S46), y_ = (([] : List (S46))) := ⟨_, rfl⟩
       replace H : (if 0 ≤ t169 then (if t169 ≤ (t155.length : Int) then ((some (t155.take (t169 : Int).toNat : List (S46))).bind fun y173 => (if y170.length + y173.length < 4398046511104 then ((some (y170 ++ y173 : List (S46))).bind fun y178 => ((some (([(⟨t154, x161001_2⟩ : S46)] : List (S46)) : List (S46))).bind fun y181 => (if y178.length + y181.length < 4398046511104 then ((some (y178 ++ y181 : List (S46))).bind fun y184 => ((some (t155.drop (t169 : Int).toNat : List (S46))).bind fun y187 => (if y184.length + y187.length < 4398046511104 then (some (y184 ++ y187)) else (none)))) else (none)))) else (none))) else (none)) else (none)) = some r := by first | (rw [hy170]; with_reducible exact H) | (have H2_ := (Option.bind_some _ _).symm.trans H; rw [hy170]; with_reducible exact H2_) | (have H2_ := (Option.bind_some _ _).symm.trans H; with_reducible exact H2_) | with_reducible exact H | (rw [hy170]; exact H) | exact H
       have Ny170 := Aside0.mk hy170
       clear hy170
       by_cases c29 : 0 ≤ t169
       ·rw [if_pos c29] at H
        have c29b0 := eq_true c29
        have c29b1 : decide (0 ≤ t169) = true := decide_eq_true c29
        clear c29
        obtain ⟨c30, H⟩ := ifS H
        have c30b0 := eq_true c30
        have c30b1 : decide (t169 ≤ (t155.length : Int)) = true := decide_eq_true c30
        clear c30
        obtain ⟨y173, hy173⟩ : ∃ y_ : List (S46), y_ = (t155.take (t169 : Int).toNat) := ⟨_, rfl⟩
        replace H : (if y170.length + y173.length < 4398046511104 then ((some (y170 ++ y173 : List (S46))).bind fun y178 => ((some (([(⟨t154, x161001_2⟩ : S46)] : List (S46)) : List (S46))).bind fun y181 => (if y178.length + y181.length < 4398046511104 then ((some (y178 ++ y181 : List (S46))).bind fun y184 => ((some (t155.drop (t169 : Int).toNat : List (S46))).bind fun y187 => (if y184.length + y187.length < 4398046511104 then (some (y184 ++ y187)) else (none)))) else (none)))) else (none)) = some r := by first | (rw [hy173]; with_reducible exact H) | (have H2_ := (Option.bind_some _ _).symm.trans H; rw [hy173]; with_reducible exact H2_) | (have H2_ := (Option.bind_some _ _).symm.trans H; with_reducible exact H2_) | with_reducible exact H | (rw [hy173]; exact H) | exact H
        have Ny173 := Aside0.mk hy173
        clear hy173
        obtain ⟨c31, H⟩ := ifS H
        have LMc31 := Aside0.mk c31
        clear c31
        obtain ⟨y178, hy178⟩ : ∃ y_ : List (S46), y_ = (y170 ++ y173) := ⟨_, rfl⟩
        replace H : ((some (([(⟨t154, x161001_2⟩ : S46)] : List (S46)) : List (S46))).bind fun y181 => (if y178.length + y181.length < 4398046511104 then ((some (y178 ++ y181 : List (S46))).bind fun y184 => ((some (t155.drop (t169 : Int).toNat : List (S46))).bind fun y187 => (if y184.length + y187.length < 4398046511104 then (some (y184 ++ y187)) else (none)))) else (none))) = some r := by first | (rw [hy178]; with_reducible exact H) | (have H2_ := (Option.bind_some _ _).symm.trans H; rw [hy178]; with_reducible exact H2_) | (have H2_ := (Option.bind_some _ _).symm.trans H; with_reducible exact H2_) | with_reducible exact H | (rw [hy178]; exact H) | exact H
        have Ny178 := Aside0.mk hy178
        clear hy178
        obtain ⟨y181, hy181⟩ : ∃ y_ : List (S46), y_ = (([(⟨t154, x161001_2⟩ : S46)] : List (S46))) := ⟨_, rfl⟩
        replace H : (if y178.length + y181.length < 4398046511104 then ((some (y178 ++ y181 : List (S46))).bind fun y184 => ((some (t155.drop (t169 : Int).toNat : List (S46))).bind fun y187 => (if y184.length + y187.length < 4398046511104 then (some (y184 ++ y187)) else (none)))) else (none)) = some r := by first | (rw [hy181]; with_reducible exact H) | (have H2_ := (Option.bind_some _ _).symm.trans H; rw [hy181]; with_reducible exact H2_) | (have H2_ := (Option.bind_some _ _).symm.trans H; with_reducible exact H2_) | with_reducible exact H | (rw [hy181]; exact H) | exact H
        have Ny181 := Aside0.mk hy181
        clear hy181
        obtain ⟨c32, H⟩ := ifS H
        have LMc32 := Aside0.mk c32
        clear c32
        obtain ⟨y184, hy184⟩ : ∃ y_ : List (S46), y_ = (y178 ++ y181) := ⟨_, rfl⟩
        replace H : ((some (t155.drop (t169 : Int).toNat : List (S46))).bind fun y187 => (if y184.length + y187.length < 4398046511104 then (some (y184 ++ y187)) else (none))) = some r := by first | (rw [hy184]; with_reducible exact H) | (have H2_ := (Option.bind_some _ _).symm.trans H; rw [hy184]; with_reducible exact H2_) | (have H2_ := (Option.bind_some _ _).symm.trans H; with_reducible exact H2_) | with_reducible exact H | (rw [hy184]; exact H) | exact H
        have Ny184 := Aside0.mk hy184
        clear hy184
        have c33b0 := eq_true (zD : 0 ≤ t169)
        have c34b0 := eq_true (zD : t169 ≤ (t155.length : Int))
        obtain ⟨y187, hy187⟩ : ∃ y_ : List (S46), y_ = (t155.drop (t169 : Int).toNat) := ⟨_, rfl⟩
        replace H : (if y184.length + y187.length < 4398046511104 then (some (y184 ++ y187)) else (none)) = some r := by first | (rw [hy187]; with_reducible exact H) | (have H2_ := (Option.bind_some _ _).symm.trans H; rw [hy187]; with_reducible exact H2_) | (have H2_ := (Option.bind_some _ _).symm.trans H; with_reducible exact H2_) | with_reducible exact H | (rw [hy187]; exact H) | exact H
        have Ny187 := Aside0.mk hy187
        clear hy187
        obtain ⟨c35, H⟩ := ifS H
        have LMc35 := Aside0.mk c35
        clear c35
        obtain ⟨y192, hy192⟩ : ∃ y_ : List (S46), y_ = (y184 ++ y187) := ⟨_, rfl⟩
        replace H : (some y192) = some r := by first | (rw [hy192]; with_reducible exact H) | (have H2_ := (Option.bind_some _ _).symm.trans H; rw [hy192]; with_reducible exact H2_) | (have H2_ := (Option.bind_some _ _).symm.trans H; with_reducible exact H2_) | with_reducible exact H | (rw [hy192]; exact H) | exact H
        have Ny192 := Aside0.mk hy192
        clear hy192
        obtain rfl := Option.some.inj H
        try go_wp2_with (first | ((with_reducible refine gate_callee (f := 30) rfl ?_); refine goesL_ (some 48) rfl rfl Try.func30 (by kernel_rfl) rfl #[.int .i64 a1, .int .i64 1, .int .i64 (wrap64 ((l0.length : Int) + 1))] rfl zG ?_; (with_reducible refine (spec_PickOf.calls k2 a1 1 (wrap64 ((l0.length : Int) + 1)) t169 _ A28.out).mono ?_); rintro e w36 ⟨rfl, hb⟩; refine ⟨_, rfl, ?_⟩; replace HO_6 := Aside0.mk (Kd.N_below (by (with_reducible repeat (first | apply Kd.N_alloc | apply Kd.N_drewN | apply Kd.N_drew)); exact HO_6.out) hb); replace HO_161001 := Aside0.mk (Kd.R_below (zR HO_161001) hb); replace BK160 := kB BK160 hb; replace HB := bS HB hb; (try clear hb)))
        replace HO_6 := Aside0.mk (Kd.N_drew HO_6.out)
        replace HO_161001 := Aside0.mk (Kd.R_drew HO_161001.out)
        replace BK160 := Aside0.mk (blk_drew BK160.out)
        replace HB := Aside0.mk (below_drew1 HB.out)
        obtain ⟨Ao39, co39, eo39⟩ := Kd.N_slice HO_6.out
        (first | subst eo39 | (injection eo39 with f1_ f2_ f3_; have f4_ := f1_.symm; have f5_ := f3_.symm; clear f1_ f2_ f3_; subst f4_; subst f5_))
        have q38 : (t169 : Int) ≤ ((t155.length : Int) : Int) := zD
        obtain ⟨i038, hi038, _, hsz38, _⟩ := info_parts info46
        have hroom38 : t155.length ≤ co39 := (Kd.N_reads' HO_6.out).2.1
        have hC38 : Kd.F k46 _ _ Ao39 t155.length t155 := (Kd.V_at (base := w.heap.size) (Kd.N_V HO_6.out)).2.2
        have hcut38 := cut_to (P := Try.prog) 24 46 .i64 Try.underlying24 hi038 Ao39 t155.length co39 t169 (zD) q38 hroom38
        have hr38 := Kd.F_take (m := (t169 : Int).toNat) hC38 (by omega)
        have hy38 : y173.length = (t169 : Int).toNat := (by rw [Ny173.out, List.length_take]; omega)
        rw [← Ny173.out] at hr38
        rw [← hy38] at hcut38
        have HO177 := Aside0.mk (show Kd.V k46 46 _ w.heap.size _ (.slice Ao39 y173.length co39) y173 from Kd.V_mk (by omega) hr38)
        have HC177 := Aside0.mk (show y173.length ≤ co39 from by omega)
        clear hr38 hC38 hroom38 hi038 hsz38
        have KY38 := Aside0.mk hy38
        clear hy38
        replace q38 := eq_true q38
        have q40 : (t169 : Int) ≤ ((t155.length : Int) : Int) := zD
        obtain ⟨i040, hi040, _, hsz40, _⟩ := info_parts info46
        have hroom40 : t155.length ≤ co39 := (Kd.N_reads' HO_6.out).2.1
        have hC40 : Kd.F k46 _ _ Ao39 t155.length t155 := (Kd.V_at (base := w.heap.size) (Kd.N_V HO_6.out)).2.2
        have q040 : (0 : Int) ≤ (t169 : Int) := zD
        have hcut40 := cut_from (P := Try.prog) 24 46 .i64 Try.underlying24 hi040 2 hsz40 Ao39 t155.length co39 t169 q040 q40
        have hr40 := Kd.F_cut (m := (t169 : Int).toNat) (c := co39) hC40 (by omega) hroom40
        obtain ⟨A40, hA40⟩ : ∃ A1, A1 = (if co39 = (t169 : Int).toNat then Ao39 else (Ao39 : Option Addr).map (·.add ((t169 : Int).toNat * 2))) := ⟨_, rfl⟩
        obtain ⟨c40, hc40⟩ : ∃ c1, c1 = co39 - (t169 : Int).toNat := ⟨_, rfl⟩
        have hy40 : y187.length = t155.length - (t169 : Int).toNat := (by rw [Ny187.out, List.length_drop] <;> omega)
        rw [show (t155).drop (t169 : Int).toNat = y187 from Ny187.out.symm] at hr40
        replace hr40 : Kd.F k46 _ _ A40 y187.length y187 := (by rw [hA40]; exact hr40)
        rw [← hy40, ← hA40, ← hc40] at hcut40
        have HO191 := Aside0.mk (show Kd.V k46 46 _ w.heap.size _ (.slice A40 y187.length c40) y187 from Kd.V_mk (by rw [hy40, hc40]; exact Nat.sub_le_sub_right hroom40 _) hr40)
        have HC191 := Aside0.mk (show y187.length ≤ c40 from by rw [hy40, hc40]; exact Nat.sub_le_sub_right hroom40 _)
        clear hr40 hC40 hroom40 hi040 hsz40 hc40
        have KY40 := Aside0.mk hy40
        have KA40 := Aside0.mk hA40
        clear hy40 hA40
        replace q40 := eq_true q40
        obtain ⟨Ao44, co44, eo44⟩ := Kd.R_slice HO_161001.out
        (first | subst eo44 | (injection eo44 with f1_ f2_ f3_; have f4_ := f1_.symm; have f5_ := f3_.symm; clear f1_ f2_ f3_; subst f4_; subst f5_))
        refine start_ (n := 13) (S := fun w' => w'.cell? ⟨gb160, 0, none⟩ = some (.int .i64 t154) ∧ w'.cell? ⟨gb160, 1, none⟩ = some (.slice Ao44 x161001_2.length co44)) (ds := []) (bm 13 0) (by kernel_rfl) rfl (bm0 _) ⟨bc0 BK160, bc1 BK160⟩ (fun hHeld => ?_); refine with_tabW spec_AddGrease.tab11 spec_AddGrease.bits11 (fun HT_ HW_ => ?_)
        generalize w36.drew = w37 at HO_6 HO_161001 BK160 HB HO177 HO191 hHeld ⊢
        refine pU 1 (some 50) (bm 13 2) HT_ rfl rfl ?_
        refine pU 2 (some 51) (bm 13 6) HT_ rfl rfl ?_
        refine pU 3 (some 52) (bm 13 14) HT_ rfl rfl ?_
        refine pU 8 (some 57) (bm 13 270) HT_ rfl rfl ?_
        refine pU 9 (some 58) (bm 13 782) HT_ rfl rfl ?_
        refine pU 10 (some 59) (bm 13 1806) HT_ rfl rfl ?_
        refine tU 5 (some 54) (bm 13 1838) HT_ HW_ rfl rfl hHeld ?_
        refine join_ (σ := Value × Value × Value) 3 (bm 13 1919) (fun s_ => [(49, s_.1), (53, s_.2.1), (55, s_.2.2)]) (fun s_ w' => (w'.cell? ⟨gb160, 0, none⟩ = some (.int .i64 t154) ∧ w'.cell? ⟨gb160, 1, none⟩ = some (.slice Ao44 x161001_2.length co44)) ∧ (Kd.V k46 46 w' w.heap.size (fun k_ => (w.heap.size ≤ k_) ∧ some k_ ≠ (s_.2.1 : Value).ownBlock ∧ some k_ ≠ (s_.2.2 : Value).ownBlock ∧ k_ ≠ gb160) (.slice Ao39 y173.length co39) y173) ∧ (Kd.N k46 46 w' w.heap.size (fun k_ => (w.heap.size ≤ k_) ∧ some k_ ≠ (s_.2.2 : Value).ownBlock ∧ k_ ≠ gb160) s_.2.1 y178) ∧ (Kd.N k46 46 w' w.heap.size (fun k_ => (w.heap.size ≤ k_) ∧ some k_ ≠ (s_.2.1 : Value).ownBlock ∧ some k_ ≠ (.slice Ao39 t155.length co39 : Value).ownBlock ∧ k_ ≠ gb160) s_.2.2 y181) ∧ (Kd.V k46 46 w' w.heap.size (fun k_ => (w.heap.size ≤ k_) ∧ some k_ ≠ (s_.2.1 : Value).ownBlock ∧ some k_ ≠ (s_.2.2 : Value).ownBlock ∧ k_ ≠ gb160) (.slice A40 y187.length c40) y187) ∧ (Kd.N k46 46 w' w.heap.size (fun k_ => (w.heap.size ≤ k_) ∧ some k_ ≠ (s_.2.1 : Value).ownBlock ∧ some k_ ≠ (s_.2.2 : Value).ownBlock ∧ k_ ≠ gb160) (.slice Ao39 t155.length co39) t155) ∧ (w'.heap[gb160]? = some (.cells #[.int .i64 t154, .slice Ao44 x161001_2.length co44] 46 (0, 0))) ∧ (Below w.heap.size w w')) ?_ ?_
        rotate_left
        ·intro hCont
         refine two_ (i := 0) (j := 6) (Ni := some 49) (Nj := some 55) (bm 13 1839) (bm 13 1902) rfl rfl rfl rfl (two_of HT_.out (by kernel_rfl)) (by decide) (by decide) (fun K hK => ?_) (fun K hK => ?_)
         ·skip
          refine Kd.N_lit_step k46 _ 46 ?hg (N' := 49) ?hd (xs := ([] : List (S46))) (inner := []) (ok := (fun k_ => (w.heap.size ≤ k_) ∧ some k_ ≠ (.slice Ao39 t155.length co39 : Value).ownBlock ∧ some k_ ≠ (.slice Ao44 x161001_2.length co44 : Value).ownBlock ∧ k_ ≠ gb160)) (okp := (fun k_ => (w.heap.size ≤ k_) ∧ some k_ ≠ (.slice Ao39 t155.length co39 : Value).ownBlock ∧ some k_ ≠ (.slice Ao44 x161001_2.length co44 : Value).ownBlock ∧ k_ ≠ gb160)) ?hr ?hp (fun _ hk => hk) ((show ∀ k_, w37.heap.size ≤ k_ → (fun k_ => (w.heap.size ≤ k_) ∧ some k_ ≠ (.slice Ao39 t155.length co39 : Value).ownBlock ∧ some k_ ≠ (.slice Ao44 x161001_2.length co44 : Value).ownBlock ∧ k_ ≠ gb160) k_ from fun k_ hk => ⟨(Nat.le_trans (below_size (zB HB)) hk), Kd.fresh' (Kd.N_lt (by (with_reducible repeat (first | apply Kd.N_alloc | apply Kd.N_drewN | apply Kd.N_drew)); exact HO_6.out)) k_ hk, Kd.fresh' (Kd.R_lt (zR HO_161001)) k_ hk, Kd.freshB (g := gb160) (o := .cells #[.int .i64 t154, (.slice Ao44 x161001_2.length co44)] 46 (0, 0)) (zK BK160) k_ hk⟩) _ (Nat.le_refl _)) (Below.refl _ _) (Nat.le_refl _) (by simp) ?_; (case hd => rfl); (case hg => rfl); (case hr => first | (go_simp; done) | (go_simp; rfl)); (case hp => exact (Reps.none _ _))
          intro v171 w41 ho42 hb hg_ hnew_
          clear hg_ hnew_
          (first | rw [← Ny170.out] at ho42 | (simp only [Int.reduceToNat] at ho42; rw [← Ny170.out] at ho42))
          replace HO_6 := Aside0.mk (Kd.N_elder' (by (with_reducible repeat (first | apply Kd.N_alloc | apply Kd.N_drewN | apply Kd.N_drew)); exact HO_6.out) (by first | exact Kd.N_base ho42 | exact Kd.S_base ho42) hb)
          replace HO_161001 := Aside0.mk (Kd.R_below (zR HO_161001) hb)
          replace HO177 := Aside0.mk (Kd.V_elder' (by (with_reducible repeat (first | apply Kd.V_alloc | apply Kd.V_drewN | apply Kd.V_drew)); exact HO177.out) (by first | exact Kd.N_base ho42 | exact Kd.S_base ho42) hb)
          replace HO191 := Aside0.mk (Kd.V_elder' (by (with_reducible repeat (first | apply Kd.V_alloc | apply Kd.V_drewN | apply Kd.V_drew)); exact HO191.out) (by first | exact Kd.N_base ho42 | exact Kd.S_base ho42) hb)
          have HO172 := Aside0.mk (Kd.N_lower ho42 (below_size (zB HB)))
          replace BK160 := kB BK160 hb
          replace HB := bS HB hb
          clear hb ho42
          refine hK.out _ _ ⟨bc0 BK160, bc1 BK160⟩ (fun hHeld => ?_)
          clear hK K
          refine norm_ (a' := ?_) ?_ ?_
          rotate_left
          ·show Act.put _ (some 49) _ = _
           simp only [Act.put, List.setIfInBounds_toArray, List.set_cons_zero, List.set_cons_succ, i64_w, i32_w]
           rfl
          refine two_ (i := 4) (j := 6) (Ni := some 53) (Nj := some 55) (bm 13 1855) (bm 13 1903) rfl rfl rfl rfl (two_of HT_.out (by kernel_rfl)) (by decide) (by decide) (fun K hK => ?_) (fun K hK => ?_)
          ·skip
           refine Kd.N_append_rows_step k46 (w0 := w) w.heap.size (by rfl) (.tmp 49) (.tmp 52) 24 46 (.agg #[(.int .i64 0), (.slice none 0 0)]) 32 rfl Try.underlying24 info46 rfl (by decide) (by omega) v171 y170 y173 _ _ _ (fun k_ => (w.heap.size ≤ k_) ∧ some k_ ≠ (.slice Ao44 x161001_2.length co44 : Value).ownBlock ∧ k_ ≠ gb160) (fun k_ => ((fun k_ => (w.heap.size ≤ k_) ∧ some k_ ≠ (.slice Ao44 x161001_2.length co44 : Value).ownBlock ∧ k_ ≠ gb160)) k_ ∧ some k_ ≠ (v171 : Value).ownBlock) rfl rfl ?aO ?aR (fun _ hk => hk) ?aF ?aB ?aS ?aL ?_
           (case aR => exact (by skip; exact Kd.V_F (Kd.V_mono (ok' := (fun k_ => ((fun k_ => (w.heap.size ≤ k_) ∧ some k_ ≠ (.slice Ao44 x161001_2.length co44 : Value).ownBlock ∧ k_ ≠ gb160)) k_ ∧ some k_ ≠ (v171 : Value).ownBlock)) (HO177.out) (fun k_ hk => ⟨⟨hk.1.1, ⟨hk.1.2.1, hk.1.2.2⟩⟩, hk.2⟩))))
           (case aB => exact (zB HB))
           (case aF => exact (fun k_ hk => ⟨(Nat.le_trans (below_size (zB HB)) hk), Kd.fresh' (Kd.R_lt (zR HO_161001)) k_ hk, Kd.freshB (g := gb160) (o := .cells #[.int .i64 t154, (.slice Ao44 x161001_2.length co44)] 46 (0, 0)) (zK BK160) k_ hk⟩))
           (case aO => exact (by (with_reducible repeat (first | apply Kd.N_alloc | apply Kd.N_drewN | apply Kd.N_drew)); exact Kd.N_mono HO172.out (fun _ hk => ⟨hk.1, ⟨hk.2.2.1, hk.2.2.2⟩⟩)))
           (case aS => exact (below_size (zB HB)))
           (case aL => have := LMc31.out; omega)
           intro v179 w43 ho hb hg hat
           rw [← Ny178.out] at ho
           replace HO_6 := Aside0.mk (Kd.N_afterv (ok := (fun k_ => (w.heap.size ≤ k_) ∧ some k_ ≠ (.slice Ao44 x161001_2.length co44 : Value).ownBlock ∧ k_ ≠ gb160)) (by (with_reducible repeat (first | apply Kd.N_alloc | apply Kd.N_drewN | apply Kd.N_drew)); exact HO_6.out) hg hat)
           replace HO_161001 := Aside0.mk (Kd.R_over' (zR HO_161001) (Kd.N_typed (by (with_reducible repeat (first | apply Kd.N_alloc | apply Kd.N_drewN | apply Kd.N_drew)); exact HO172.out)) (by decide) hg)
           replace BK160 := Aside0.mk (blk_grown (g := gb160) (o := .cells #[.int .i64 t154, (.slice Ao44 x161001_2.length co44)] 46 (0, 0)) (zK BK160) hg (Kd.N_away HO172.out (fun _ hk => hk.2.2.2)))
           replace HO177 := Aside0.mk (Kd.V_afterv (ok := (fun k_ => (w.heap.size ≤ k_) ∧ some k_ ≠ (.slice Ao44 x161001_2.length co44 : Value).ownBlock ∧ k_ ≠ gb160)) (by (with_reducible repeat (first | apply Kd.V_alloc | apply Kd.V_drewN | apply Kd.V_drew)); exact HO177.out) hg hat)
           replace HO191 := Aside0.mk (Kd.V_afterv (ok := (fun k_ => (w.heap.size ≤ k_) ∧ some k_ ≠ (.slice Ao44 x161001_2.length co44 : Value).ownBlock ∧ k_ ≠ gb160)) (by (with_reducible repeat (first | apply Kd.V_alloc | apply Kd.V_drewN | apply Kd.V_drew)); exact HO191.out) hg hat)
           replace HB := Aside0.mk (hb)
           have HO180 := Aside0.mk (ho)
           clear HO172
           clear ho hb hg hat
           refine hK.out _ _ ⟨bc0 BK160, bc1 BK160⟩ (fun hHeld => ?_)
           clear hK K
           refine norm_ (a' := ?_) ?_ ?_
           rotate_left
           ·show Act.put _ (some 53) _ = _
            simp only [Act.put, List.setIfInBounds_toArray, List.set_cons_zero, List.set_cons_succ, i64_w, i32_w]
            rfl
           refine one_ (i := 6) (N := some 55) (bm 13 1919) rfl rfl (one_of HT_.out (by kernel_rfl)) (by decide) (fun K hK => ?_)
           refine Kd.N_lit_step k46 _ 46 ?hg (N' := 55) ?hd (xs := ([(⟨t154, x161001_2⟩ : S46)] : List (S46))) (inner := [.int .i64 t154, .slice Ao44 x161001_2.length co44]) (ok := (fun k_ => (w.heap.size ≤ k_) ∧ some k_ ≠ (.slice Ao39 t155.length co39 : Value).ownBlock ∧ some k_ ≠ (v179 : Value).ownBlock ∧ k_ ≠ gb160)) (okp := (fun k_ => (w.heap.size ≤ k_) ∧ some k_ ≠ (.slice Ao39 t155.length co39 : Value).ownBlock ∧ some k_ ≠ (v179 : Value).ownBlock ∧ k_ ≠ gb160)) ?hr ?hp (fun _ hk => hk) ((show ∀ k_, w43.heap.size ≤ k_ → (fun k_ => (w.heap.size ≤ k_) ∧ some k_ ≠ (.slice Ao39 t155.length co39 : Value).ownBlock ∧ some k_ ≠ (v179 : Value).ownBlock ∧ k_ ≠ gb160) k_ from fun k_ hk => ⟨(Nat.le_trans (below_size (zB HB)) hk), Kd.fresh' (Kd.N_lt (by (with_reducible repeat (first | apply Kd.N_alloc | apply Kd.N_drewN | apply Kd.N_drew)); exact HO_6.out)) k_ hk, Kd.fresh' (Kd.N_lt (by (with_reducible repeat (first | apply Kd.N_alloc | apply Kd.N_drewN | apply Kd.N_drew)); exact HO180.out)) k_ hk, Kd.freshB (g := gb160) (o := .cells #[.int .i64 t154, .slice Ao44 x161001_2.length co44] 46 (0, 0)) (zK BK160) k_ hk⟩) _ (Nat.le_refl _)) (Below.refl _ _) (Nat.le_refl _) (by simp) ?_; (case hd => rfl); (case hg => rfl); (case hr => first | (go_simp; done) | (go_simp; rfl)); (case hp => exact (Reps.c2 (show Kd.FK k46 _ _ (⟨t154, x161001_2⟩ : S46) [.int .i64 t154, .slice Ao44 x161001_2.length co44] from (k46_mkF _ _ (⟨t154, x161001_2⟩ : S46) (Kd.R_reads' (Kd.R_mono (ok' := (fun k_ => (w.heap.size ≤ k_) ∧ some k_ ≠ (.slice Ao39 t155.length co39 : Value).ownBlock ∧ some k_ ≠ (v179 : Value).ownBlock ∧ k_ ≠ gb160)) (Kd.R_types (Kd.R_apart' (Kd.R_apart' (HO_161001.out) (Kd.N_typed HO_6.out) (by decide)) (Kd.N_typed HO180.out) (by decide)) BK160.out (by decide)) (fun k_ hk => ⟨hk.1.1.1, ⟨hk.1.1.2, ⟨hk.1.2, hk.2⟩⟩⟩))).2.1 (Kd.R_F (Kd.R_mono (ok' := (fun k_ => (w.heap.size ≤ k_) ∧ some k_ ≠ (.slice Ao39 t155.length co39 : Value).ownBlock ∧ some k_ ≠ (v179 : Value).ownBlock ∧ k_ ≠ gb160)) (Kd.R_types (Kd.R_apart' (Kd.R_apart' (HO_161001.out) (Kd.N_typed HO_6.out) (by decide)) (Kd.N_typed HO180.out) (by decide)) BK160.out (by decide)) (fun k_ hk => ⟨hk.1.1.1, ⟨hk.1.1.2, ⟨hk.1.2, hk.2⟩⟩⟩))))) (Reps.none _ _)))
           intro v182 w45 ho46 hb hg_ hnew_
           clear hg_ hnew_
           (first | rw [← Ny181.out] at ho46 | (simp only [Int.reduceToNat] at ho46; rw [← Ny181.out] at ho46))
           replace HO_6 := Aside0.mk (Kd.N_elder' (by (with_reducible repeat (first | apply Kd.N_alloc | apply Kd.N_drewN | apply Kd.N_drew)); exact HO_6.out) (by first | exact Kd.N_base ho46 | exact Kd.S_base ho46) hb)
           replace HO177 := Aside0.mk (Kd.V_elder' (by (with_reducible repeat (first | apply Kd.V_alloc | apply Kd.V_drewN | apply Kd.V_drew)); exact HO177.out) (by first | exact Kd.N_base ho46 | exact Kd.S_base ho46) hb)
           replace HO191 := Aside0.mk (Kd.V_elder' (by (with_reducible repeat (first | apply Kd.V_alloc | apply Kd.V_drewN | apply Kd.V_drew)); exact HO191.out) (by first | exact Kd.N_base ho46 | exact Kd.S_base ho46) hb)
           replace HO180 := Aside0.mk (Kd.N_elder' (by (with_reducible repeat (first | apply Kd.N_alloc | apply Kd.N_drewN | apply Kd.N_drew)); exact HO180.out) (by first | exact Kd.N_base ho46 | exact Kd.S_base ho46) hb)
           have HO183 := Aside0.mk (Kd.N_lower ho46 (below_size (zB HB)))
           replace BK160 := kB BK160 hb
           replace HB := bS HB hb
           clear HO_161001
           clear hb ho46
           refine hK.out _ _ ⟨bc0 BK160, bc1 BK160⟩ (fun hHeld => ?_)
           clear hK K
           refine norm_ (a' := ?_) ?_ ?_
           rotate_left
           ·show Act.put _ (some 55) _ = _
            simp only [Act.put, List.setIfInBounds_toArray, List.set_cons_zero, List.set_cons_succ, i64_w, i32_w]
            rfl
           exact norm_ (by simp only [putAll, Act.put, List.setIfInBounds_toArray, List.set_cons_zero, List.set_cons_succ]) (hCont (v171, v179, v182) _ ⟨hHeld, (by (with_reducible repeat (first | apply Kd.V_alloc | apply Kd.V_drewN | apply Kd.V_drew)); exact Kd.V_mono HO177.out (fun _ hk => ⟨hk.1.1.1, ⟨hk.1.2, ⟨hk.2, hk.1.1.2.2⟩⟩⟩)), (by (with_reducible repeat (first | apply Kd.N_alloc | apply Kd.N_drewN | apply Kd.N_drew)); exact Kd.N_mono HO180.out (fun _ hk => ⟨hk.1.1, ⟨hk.2, hk.1.2.2⟩⟩)), (by (with_reducible repeat (first | apply Kd.N_alloc | apply Kd.N_drewN | apply Kd.N_drew)); exact Kd.N_mono HO183.out (fun _ hk => ⟨hk.1, ⟨hk.2.2.1, ⟨hk.2.1, hk.2.2.2⟩⟩⟩)), (by (with_reducible repeat (first | apply Kd.V_alloc | apply Kd.V_drewN | apply Kd.V_drew)); exact Kd.V_mono HO191.out (fun _ hk => ⟨hk.1.1.1, ⟨hk.1.2, ⟨hk.2, hk.1.1.2.2⟩⟩⟩)), (by (with_reducible repeat (first | apply Kd.N_alloc | apply Kd.N_drewN | apply Kd.N_drew)); exact Kd.N_mono HO_6.out (fun _ hk => ⟨hk.1.1.1, ⟨hk.1.2, ⟨hk.2, hk.1.1.2.2⟩⟩⟩)), (zK BK160), (zB HB)⟩)
          ·skip
           refine Kd.N_lit_step k46 _ 46 ?hg (N' := 55) ?hd (xs := ([(⟨t154, x161001_2⟩ : S46)] : List (S46))) (inner := [.int .i64 t154, .slice Ao44 x161001_2.length co44]) (ok := (fun k_ => (w.heap.size ≤ k_) ∧ some k_ ≠ (.slice Ao39 t155.length co39 : Value).ownBlock ∧ some k_ ≠ (v171 : Value).ownBlock ∧ k_ ≠ gb160)) (okp := (fun k_ => (w.heap.size ≤ k_) ∧ some k_ ≠ (.slice Ao39 t155.length co39 : Value).ownBlock ∧ some k_ ≠ (v171 : Value).ownBlock ∧ k_ ≠ gb160)) ?hr ?hp (fun _ hk => hk) ((show ∀ k_, w41.heap.size ≤ k_ → (fun k_ => (w.heap.size ≤ k_) ∧ some k_ ≠ (.slice Ao39 t155.length co39 : Value).ownBlock ∧ some k_ ≠ (v171 : Value).ownBlock ∧ k_ ≠ gb160) k_ from fun k_ hk => ⟨(Nat.le_trans (below_size (zB HB)) hk), Kd.fresh' (Kd.N_lt (by (with_reducible repeat (first | apply Kd.N_alloc | apply Kd.N_drewN | apply Kd.N_drew)); exact HO_6.out)) k_ hk, Kd.fresh' (Kd.N_lt (by (with_reducible repeat (first | apply Kd.N_alloc | apply Kd.N_drewN | apply Kd.N_drew)); exact HO172.out)) k_ hk, Kd.freshB (g := gb160) (o := .cells #[.int .i64 t154, .slice Ao44 x161001_2.length co44] 46 (0, 0)) (zK BK160) k_ hk⟩) _ (Nat.le_refl _)) (Below.refl _ _) (Nat.le_refl _) (by simp) ?_; (case hd => rfl); (case hg => rfl); (case hr => first | (go_simp; done) | (go_simp; rfl)); (case hp => exact (Reps.c2 (show Kd.FK k46 _ _ (⟨t154, x161001_2⟩ : S46) [.int .i64 t154, .slice Ao44 x161001_2.length co44] from (k46_mkF _ _ (⟨t154, x161001_2⟩ : S46) (Kd.R_reads' (Kd.R_mono (ok' := (fun k_ => (w.heap.size ≤ k_) ∧ some k_ ≠ (.slice Ao39 t155.length co39 : Value).ownBlock ∧ some k_ ≠ (v171 : Value).ownBlock ∧ k_ ≠ gb160)) (Kd.R_types (Kd.R_apart' (Kd.R_apart' (HO_161001.out) (Kd.N_typed HO_6.out) (by decide)) (Kd.N_typed HO172.out) (by decide)) BK160.out (by decide)) (fun k_ hk => ⟨hk.1.1.1, ⟨hk.1.1.2, ⟨hk.1.2, hk.2⟩⟩⟩))).2.1 (Kd.R_F (Kd.R_mono (ok' := (fun k_ => (w.heap.size ≤ k_) ∧ some k_ ≠ (.slice Ao39 t155.length co39 : Value).ownBlock ∧ some k_ ≠ (v171 : Value).ownBlock ∧ k_ ≠ gb160)) (Kd.R_types (Kd.R_apart' (Kd.R_apart' (HO_161001.out) (Kd.N_typed HO_6.out) (by decide)) (Kd.N_typed HO172.out) (by decide)) BK160.out (by decide)) (fun k_ hk => ⟨hk.1.1.1, ⟨hk.1.1.2, ⟨hk.1.2, hk.2⟩⟩⟩))))) (Reps.none _ _)))
           intro v182 w44 ho45 hb hg_ hnew_
           clear hg_ hnew_
           (first | rw [← Ny181.out] at ho45 | (simp only [Int.reduceToNat] at ho45; rw [← Ny181.out] at ho45))
           replace HO_6 := Aside0.mk (Kd.N_elder' (by (with_reducible repeat (first | apply Kd.N_alloc | apply Kd.N_drewN | apply Kd.N_drew)); exact HO_6.out) (by first | exact Kd.N_base ho45 | exact Kd.S_base ho45) hb)
           replace HO177 := Aside0.mk (Kd.V_elder' (by (with_reducible repeat (first | apply Kd.V_alloc | apply Kd.V_drewN | apply Kd.V_drew)); exact HO177.out) (by first | exact Kd.N_base ho45 | exact Kd.S_base ho45) hb)
           replace HO191 := Aside0.mk (Kd.V_elder' (by (with_reducible repeat (first | apply Kd.V_alloc | apply Kd.V_drewN | apply Kd.V_drew)); exact HO191.out) (by first | exact Kd.N_base ho45 | exact Kd.S_base ho45) hb)
           replace HO172 := Aside0.mk (Kd.N_elder' (by (with_reducible repeat (first | apply Kd.N_alloc | apply Kd.N_drewN | apply Kd.N_drew)); exact HO172.out) (by first | exact Kd.N_base ho45 | exact Kd.S_base ho45) hb)
           have HO183 := Aside0.mk (Kd.N_lower ho45 (below_size (zB HB)))
           replace BK160 := kB BK160 hb
           replace HB := bS HB hb
           clear HO_161001
           clear hb ho45
           refine hK.out _ _ ⟨bc0 BK160, bc1 BK160⟩ (fun hHeld => ?_)
           clear hK K
           refine norm_ (a' := ?_) ?_ ?_
           rotate_left
           ·show Act.put _ (some 55) _ = _
            simp only [Act.put, List.setIfInBounds_toArray, List.set_cons_zero, List.set_cons_succ, i64_w, i32_w]
            rfl
           refine one_ (i := 4) (N := some 53) (bm 13 1919) rfl rfl (one_of HT_.out (by kernel_rfl)) (by decide) (fun K hK => ?_)
           refine Kd.N_append_rows_step k46 (w0 := w) w.heap.size (by rfl) (.tmp 49) (.tmp 52) 24 46 (.agg #[(.int .i64 0), (.slice none 0 0)]) 32 rfl Try.underlying24 info46 rfl (by decide) (by omega) v171 y170 y173 _ _ _ (fun k_ => (w.heap.size ≤ k_) ∧ some k_ ≠ (v182 : Value).ownBlock ∧ k_ ≠ gb160) (fun k_ => ((fun k_ => (w.heap.size ≤ k_) ∧ some k_ ≠ (v182 : Value).ownBlock ∧ k_ ≠ gb160)) k_ ∧ some k_ ≠ (v171 : Value).ownBlock) rfl rfl ?aO ?aR (fun _ hk => hk) ?aF ?aB ?aS ?aL ?_
           (case aR => exact (by skip; exact Kd.V_F (Kd.V_mono (ok' := (fun k_ => ((fun k_ => (w.heap.size ≤ k_) ∧ some k_ ≠ (v182 : Value).ownBlock ∧ k_ ≠ gb160)) k_ ∧ some k_ ≠ (v171 : Value).ownBlock)) (HO177.out) (fun k_ hk => ⟨⟨hk.1.1.1, ⟨hk.2, hk.1.1.2.2⟩⟩, hk.1.2⟩))))
           (case aB => exact (zB HB))
           (case aF => exact (fun k_ hk => ⟨(Nat.le_trans (below_size (zB HB)) hk), Kd.fresh' (Kd.N_lt (by (with_reducible repeat (first | apply Kd.N_alloc | apply Kd.N_drewN | apply Kd.N_drew)); exact HO183.out)) k_ hk, Kd.freshB (g := gb160) (o := .cells #[.int .i64 t154, .slice Ao44 x161001_2.length co44] 46 (0, 0)) (zK BK160) k_ hk⟩))
           (case aO => exact (by (with_reducible repeat (first | apply Kd.N_alloc | apply Kd.N_drewN | apply Kd.N_drew)); exact Kd.N_mono HO172.out (fun _ hk => ⟨hk.1.1, ⟨hk.2, hk.1.2.2.2⟩⟩)))
           (case aS => exact (below_size (zB HB)))
           (case aL => have := LMc31.out; omega)
           intro v179 w46 ho hb hg hat
           rw [← Ny178.out] at ho
           replace HO_6 := Aside0.mk (Kd.N_afterv (ok := (fun k_ => (w.heap.size ≤ k_) ∧ some k_ ≠ (v182 : Value).ownBlock ∧ k_ ≠ gb160)) (by (with_reducible repeat (first | apply Kd.N_alloc | apply Kd.N_drewN | apply Kd.N_drew)); exact Kd.N_mono HO_6.out (fun _ hk => ⟨⟨hk.1.1.1, ⟨hk.2, hk.1.1.2.2⟩⟩, hk.1.2⟩)) hg hat)
           replace BK160 := Aside0.mk (blk_grown (g := gb160) (o := .cells #[.int .i64 t154, .slice Ao44 x161001_2.length co44] 46 (0, 0)) (zK BK160) hg (Kd.N_away HO172.out (fun _ hk => hk.1.2.2.2)))
           replace HO177 := Aside0.mk (Kd.V_afterv (ok := (fun k_ => (w.heap.size ≤ k_) ∧ some k_ ≠ (v182 : Value).ownBlock ∧ k_ ≠ gb160)) (by (with_reducible repeat (first | apply Kd.V_alloc | apply Kd.V_drewN | apply Kd.V_drew)); exact Kd.V_mono HO177.out (fun _ hk => ⟨⟨hk.1.1.1, ⟨hk.2, hk.1.1.2.2⟩⟩, hk.1.2⟩)) hg hat)
           replace HO191 := Aside0.mk (Kd.V_afterv (ok := (fun k_ => (w.heap.size ≤ k_) ∧ some k_ ≠ (v182 : Value).ownBlock ∧ k_ ≠ gb160)) (by (with_reducible repeat (first | apply Kd.V_alloc | apply Kd.V_drewN | apply Kd.V_drew)); exact Kd.V_mono HO191.out (fun _ hk => ⟨⟨hk.1.1.1, ⟨hk.2, hk.1.1.2.2⟩⟩, hk.1.2⟩)) hg hat)
           replace HO183 := Aside0.mk (Kd.N_afterv (ok := (fun k_ => (w.heap.size ≤ k_) ∧ some k_ ≠ (.slice Ao39 t155.length co39 : Value).ownBlock ∧ k_ ≠ gb160)) (by (with_reducible repeat (first | apply Kd.N_alloc | apply Kd.N_drewN | apply Kd.N_drew)); exact Kd.N_mono HO183.out (fun _ hk => ⟨⟨hk.1, ⟨hk.2.1, hk.2.2.2⟩⟩, hk.2.2.1⟩)) hg hat)
           replace HB := Aside0.mk (hb)
           have HO180 := Aside0.mk (ho)
           clear HO172
           clear ho hb hg hat
           refine hK.out _ _ ⟨bc0 BK160, bc1 BK160⟩ (fun hHeld => ?_)
           clear hK K
           refine norm_ (a' := ?_) ?_ ?_
           rotate_left
           ·show Act.put _ (some 53) _ = _
            simp only [Act.put, List.setIfInBounds_toArray, List.set_cons_zero, List.set_cons_succ, i64_w, i32_w]
            rfl
           exact norm_ (by simp only [putAll, Act.put, List.setIfInBounds_toArray, List.set_cons_zero, List.set_cons_succ]) (hCont (v171, v179, v182) _ ⟨hHeld, (by (with_reducible repeat (first | apply Kd.V_alloc | apply Kd.V_drewN | apply Kd.V_drew)); exact Kd.V_mono HO177.out (fun _ hk => ⟨hk.1.1, ⟨hk.2, ⟨hk.1.2.1, hk.1.2.2⟩⟩⟩)), (by (with_reducible repeat (first | apply Kd.N_alloc | apply Kd.N_drewN | apply Kd.N_drew)); exact HO180.out), (by (with_reducible repeat (first | apply Kd.N_alloc | apply Kd.N_drewN | apply Kd.N_drew)); exact Kd.N_mono HO183.out (fun _ hk => ⟨hk.1.1, ⟨hk.2, ⟨hk.1.2.1, hk.1.2.2⟩⟩⟩)), (by (with_reducible repeat (first | apply Kd.V_alloc | apply Kd.V_drewN | apply Kd.V_drew)); exact Kd.V_mono HO191.out (fun _ hk => ⟨hk.1.1, ⟨hk.2, ⟨hk.1.2.1, hk.1.2.2⟩⟩⟩)), (by (with_reducible repeat (first | apply Kd.N_alloc | apply Kd.N_drewN | apply Kd.N_drew)); exact Kd.N_mono HO_6.out (fun _ hk => ⟨hk.1.1, ⟨hk.2, ⟨hk.1.2.1, hk.1.2.2⟩⟩⟩)), (zK BK160), (zB HB)⟩)
         ·skip
          refine Kd.N_lit_step k46 _ 46 ?hg (N' := 55) ?hd (xs := ([(⟨t154, x161001_2⟩ : S46)] : List (S46))) (inner := [.int .i64 t154, .slice Ao44 x161001_2.length co44]) (ok := (fun k_ => (w.heap.size ≤ k_) ∧ some k_ ≠ (.slice Ao39 t155.length co39 : Value).ownBlock ∧ k_ ≠ gb160)) (okp := (fun k_ => (w.heap.size ≤ k_) ∧ some k_ ≠ (.slice Ao39 t155.length co39 : Value).ownBlock ∧ k_ ≠ gb160)) ?hr ?hp (fun _ hk => hk) ((show ∀ k_, w37.heap.size ≤ k_ → (fun k_ => (w.heap.size ≤ k_) ∧ some k_ ≠ (.slice Ao39 t155.length co39 : Value).ownBlock ∧ k_ ≠ gb160) k_ from fun k_ hk => ⟨(Nat.le_trans (below_size (zB HB)) hk), Kd.fresh' (Kd.N_lt (by (with_reducible repeat (first | apply Kd.N_alloc | apply Kd.N_drewN | apply Kd.N_drew)); exact HO_6.out)) k_ hk, Kd.freshB (g := gb160) (o := .cells #[.int .i64 t154, .slice Ao44 x161001_2.length co44] 46 (0, 0)) (zK BK160) k_ hk⟩) _ (Nat.le_refl _)) (Below.refl _ _) (Nat.le_refl _) (by simp) ?_; (case hd => rfl); (case hg => rfl); (case hr => first | (go_simp; done) | (go_simp; rfl)); (case hp => exact (Reps.c2 (show Kd.FK k46 _ _ (⟨t154, x161001_2⟩ : S46) [.int .i64 t154, .slice Ao44 x161001_2.length co44] from (k46_mkF _ _ (⟨t154, x161001_2⟩ : S46) (Kd.R_reads' (Kd.R_mono (ok' := (fun k_ => (w.heap.size ≤ k_) ∧ some k_ ≠ (.slice Ao39 t155.length co39 : Value).ownBlock ∧ k_ ≠ gb160)) (Kd.R_types (Kd.R_apart' (HO_161001.out) (Kd.N_typed HO_6.out) (by decide)) BK160.out (by decide)) (fun k_ hk => ⟨hk.1.1, ⟨hk.1.2, hk.2⟩⟩))).2.1 (Kd.R_F (Kd.R_mono (ok' := (fun k_ => (w.heap.size ≤ k_) ∧ some k_ ≠ (.slice Ao39 t155.length co39 : Value).ownBlock ∧ k_ ≠ gb160)) (Kd.R_types (Kd.R_apart' (HO_161001.out) (Kd.N_typed HO_6.out) (by decide)) BK160.out (by decide)) (fun k_ hk => ⟨hk.1.1, ⟨hk.1.2, hk.2⟩⟩))))) (Reps.none _ _)))
          intro v182 w42 ho43 hb hg_ hnew_
          clear hg_ hnew_
          (first | rw [← Ny181.out] at ho43 | (simp only [Int.reduceToNat] at ho43; rw [← Ny181.out] at ho43))
          replace HO_6 := Aside0.mk (Kd.N_elder' (by (with_reducible repeat (first | apply Kd.N_alloc | apply Kd.N_drewN | apply Kd.N_drew)); exact HO_6.out) (by first | exact Kd.N_base ho43 | exact Kd.S_base ho43) hb)
          replace HO177 := Aside0.mk (Kd.V_elder' (by (with_reducible repeat (first | apply Kd.V_alloc | apply Kd.V_drewN | apply Kd.V_drew)); exact HO177.out) (by first | exact Kd.N_base ho43 | exact Kd.S_base ho43) hb)
          replace HO191 := Aside0.mk (Kd.V_elder' (by (with_reducible repeat (first | apply Kd.V_alloc | apply Kd.V_drewN | apply Kd.V_drew)); exact HO191.out) (by first | exact Kd.N_base ho43 | exact Kd.S_base ho43) hb)
          have HO183 := Aside0.mk (Kd.N_lower ho43 (below_size (zB HB)))
          replace BK160 := kB BK160 hb
          replace HB := bS HB hb
          clear HO_161001
          clear hb ho43
          refine hK.out _ _ ⟨bc0 BK160, bc1 BK160⟩ (fun hHeld => ?_)
          clear hK K
          refine norm_ (a' := ?_) ?_ ?_
          rotate_left
          ·show Act.put _ (some 55) _ = _
           simp only [Act.put, List.setIfInBounds_toArray, List.set_cons_zero, List.set_cons_succ, i64_w, i32_w]
           rfl
          refine one_ (i := 0) (N := some 49) (bm 13 1903) rfl rfl (one_of HT_.out (by kernel_rfl)) (by decide) (fun K hK => ?_)
          refine Kd.N_lit_step k46 _ 46 ?hg (N' := 49) ?hd (xs := ([] : List (S46))) (inner := []) (ok := (fun k_ => (w.heap.size ≤ k_) ∧ some k_ ≠ (.slice Ao39 t155.length co39 : Value).ownBlock ∧ some k_ ≠ (v182 : Value).ownBlock ∧ k_ ≠ gb160)) (okp := (fun k_ => (w.heap.size ≤ k_) ∧ some k_ ≠ (.slice Ao39 t155.length co39 : Value).ownBlock ∧ some k_ ≠ (v182 : Value).ownBlock ∧ k_ ≠ gb160)) ?hr ?hp (fun _ hk => hk) ((show ∀ k_, w42.heap.size ≤ k_ → (fun k_ => (w.heap.size ≤ k_) ∧ some k_ ≠ (.slice Ao39 t155.length co39 : Value).ownBlock ∧ some k_ ≠ (v182 : Value).ownBlock ∧ k_ ≠ gb160) k_ from fun k_ hk => ⟨(Nat.le_trans (below_size (zB HB)) hk), Kd.fresh' (Kd.N_lt (by (with_reducible repeat (first | apply Kd.N_alloc | apply Kd.N_drewN | apply Kd.N_drew)); exact HO_6.out)) k_ hk, Kd.fresh' (Kd.N_lt (by (with_reducible repeat (first | apply Kd.N_alloc | apply Kd.N_drewN | apply Kd.N_drew)); exact HO183.out)) k_ hk, Kd.freshB (g := gb160) (o := .cells #[.int .i64 t154, .slice Ao44 x161001_2.length co44] 46 (0, 0)) (zK BK160) k_ hk⟩) _ (Nat.le_refl _)) (Below.refl _ _) (Nat.le_refl _) (by simp) ?_; (case hd => rfl); (case hg => rfl); (case hr => first | (go_simp; done) | (go_simp; rfl)); (case hp => exact (Reps.none _ _))
          intro v171 w44 ho45 hb hg_ hnew_
          clear hg_ hnew_
          (first | rw [← Ny170.out] at ho45 | (simp only [Int.reduceToNat] at ho45; rw [← Ny170.out] at ho45))
          replace HO_6 := Aside0.mk (Kd.N_elder' (by (with_reducible repeat (first | apply Kd.N_alloc | apply Kd.N_drewN | apply Kd.N_drew)); exact HO_6.out) (by first | exact Kd.N_base ho45 | exact Kd.S_base ho45) hb)
          replace HO177 := Aside0.mk (Kd.V_elder' (by (with_reducible repeat (first | apply Kd.V_alloc | apply Kd.V_drewN | apply Kd.V_drew)); exact HO177.out) (by first | exact Kd.N_base ho45 | exact Kd.S_base ho45) hb)
          replace HO191 := Aside0.mk (Kd.V_elder' (by (with_reducible repeat (first | apply Kd.V_alloc | apply Kd.V_drewN | apply Kd.V_drew)); exact HO191.out) (by first | exact Kd.N_base ho45 | exact Kd.S_base ho45) hb)
          replace HO183 := Aside0.mk (Kd.N_elder' (by (with_reducible repeat (first | apply Kd.N_alloc | apply Kd.N_drewN | apply Kd.N_drew)); exact HO183.out) (by first | exact Kd.N_base ho45 | exact Kd.S_base ho45) hb)
          have HO172 := Aside0.mk (Kd.N_lower ho45 (below_size (zB HB)))
          replace BK160 := kB BK160 hb
          replace HB := bS HB hb
          clear hb ho45
          refine hK.out _ _ ⟨bc0 BK160, bc1 BK160⟩ (fun hHeld => ?_)
          clear hK K
          refine norm_ (a' := ?_) ?_ ?_
          rotate_left
          ·show Act.put _ (some 49) _ = _
           simp only [Act.put, List.setIfInBounds_toArray, List.set_cons_zero, List.set_cons_succ, i64_w, i32_w]
           rfl
          refine one_ (i := 4) (N := some 53) (bm 13 1919) rfl rfl (one_of HT_.out (by kernel_rfl)) (by decide) (fun K hK => ?_)
          refine Kd.N_append_rows_step k46 (w0 := w) w.heap.size (by rfl) (.tmp 49) (.tmp 52) 24 46 (.agg #[(.int .i64 0), (.slice none 0 0)]) 32 rfl Try.underlying24 info46 rfl (by decide) (by omega) v171 y170 y173 _ _ _ (fun k_ => (w.heap.size ≤ k_) ∧ some k_ ≠ (v182 : Value).ownBlock ∧ k_ ≠ gb160) (fun k_ => ((fun k_ => (w.heap.size ≤ k_) ∧ some k_ ≠ (v182 : Value).ownBlock ∧ k_ ≠ gb160)) k_ ∧ some k_ ≠ (v171 : Value).ownBlock) rfl rfl ?aO ?aR (fun _ hk => hk) ?aF ?aB ?aS ?aL ?_
          (case aR => exact (by skip; exact Kd.V_F (Kd.V_mono (ok' := (fun k_ => ((fun k_ => (w.heap.size ≤ k_) ∧ some k_ ≠ (v182 : Value).ownBlock ∧ k_ ≠ gb160)) k_ ∧ some k_ ≠ (v171 : Value).ownBlock)) (HO177.out) (fun k_ hk => ⟨⟨hk.1.1.1, ⟨hk.1.2, hk.1.1.2.2⟩⟩, hk.2⟩))))
          (case aB => exact (zB HB))
          (case aF => exact (fun k_ hk => ⟨(Nat.le_trans (below_size (zB HB)) hk), Kd.fresh' (Kd.N_lt (by (with_reducible repeat (first | apply Kd.N_alloc | apply Kd.N_drewN | apply Kd.N_drew)); exact HO183.out)) k_ hk, Kd.freshB (g := gb160) (o := .cells #[.int .i64 t154, .slice Ao44 x161001_2.length co44] 46 (0, 0)) (zK BK160) k_ hk⟩))
          (case aO => exact (by (with_reducible repeat (first | apply Kd.N_alloc | apply Kd.N_drewN | apply Kd.N_drew)); exact Kd.N_mono HO172.out (fun _ hk => ⟨hk.1, ⟨hk.2.2.1, hk.2.2.2⟩⟩)))
          (case aS => exact (below_size (zB HB)))
          (case aL => have := LMc31.out; omega)
          intro v179 w46 ho hb hg hat
          rw [← Ny178.out] at ho
          replace HO_6 := Aside0.mk (Kd.N_afterv (ok := (fun k_ => (w.heap.size ≤ k_) ∧ some k_ ≠ (v182 : Value).ownBlock ∧ k_ ≠ gb160)) (by (with_reducible repeat (first | apply Kd.N_alloc | apply Kd.N_drewN | apply Kd.N_drew)); exact Kd.N_mono HO_6.out (fun _ hk => ⟨⟨hk.1.1.1, ⟨hk.1.2, hk.1.1.2.2⟩⟩, hk.2⟩)) hg hat)
          replace BK160 := Aside0.mk (blk_grown (g := gb160) (o := .cells #[.int .i64 t154, .slice Ao44 x161001_2.length co44] 46 (0, 0)) (zK BK160) hg (Kd.N_away HO172.out (fun _ hk => hk.2.2.2)))
          replace HO177 := Aside0.mk (Kd.V_afterv (ok := (fun k_ => (w.heap.size ≤ k_) ∧ some k_ ≠ (v182 : Value).ownBlock ∧ k_ ≠ gb160)) (by (with_reducible repeat (first | apply Kd.V_alloc | apply Kd.V_drewN | apply Kd.V_drew)); exact Kd.V_mono HO177.out (fun _ hk => ⟨⟨hk.1.1.1, ⟨hk.1.2, hk.1.1.2.2⟩⟩, hk.2⟩)) hg hat)
          replace HO191 := Aside0.mk (Kd.V_afterv (ok := (fun k_ => (w.heap.size ≤ k_) ∧ some k_ ≠ (v182 : Value).ownBlock ∧ k_ ≠ gb160)) (by (with_reducible repeat (first | apply Kd.V_alloc | apply Kd.V_drewN | apply Kd.V_drew)); exact Kd.V_mono HO191.out (fun _ hk => ⟨⟨hk.1.1.1, ⟨hk.1.2, hk.1.1.2.2⟩⟩, hk.2⟩)) hg hat)
          replace HO183 := Aside0.mk (Kd.N_afterv (ok := (fun k_ => (w.heap.size ≤ k_) ∧ some k_ ≠ (.slice Ao39 t155.length co39 : Value).ownBlock ∧ k_ ≠ gb160)) (by (with_reducible repeat (first | apply Kd.N_alloc | apply Kd.N_drewN | apply Kd.N_drew)); exact HO183.out) hg hat)
          replace HB := Aside0.mk (hb)
          have HO180 := Aside0.mk (ho)
          clear HO172
          clear ho hb hg hat
          refine hK.out _ _ ⟨bc0 BK160, bc1 BK160⟩ (fun hHeld => ?_)
          clear hK K
          refine norm_ (a' := ?_) ?_ ?_
          rotate_left
          ·show Act.put _ (some 53) _ = _
           simp only [Act.put, List.setIfInBounds_toArray, List.set_cons_zero, List.set_cons_succ, i64_w, i32_w]
           rfl
          exact norm_ (by simp only [putAll, Act.put, List.setIfInBounds_toArray, List.set_cons_zero, List.set_cons_succ]) (hCont (v171, v179, v182) _ ⟨hHeld, (by (with_reducible repeat (first | apply Kd.V_alloc | apply Kd.V_drewN | apply Kd.V_drew)); exact Kd.V_mono HO177.out (fun _ hk => ⟨hk.1.1, ⟨hk.2, ⟨hk.1.2.1, hk.1.2.2⟩⟩⟩)), (by (with_reducible repeat (first | apply Kd.N_alloc | apply Kd.N_drewN | apply Kd.N_drew)); exact HO180.out), (by (with_reducible repeat (first | apply Kd.N_alloc | apply Kd.N_drewN | apply Kd.N_drew)); exact Kd.N_mono HO183.out (fun _ hk => ⟨hk.1.1, ⟨hk.2, ⟨hk.1.2.1, hk.1.2.2⟩⟩⟩)), (by (with_reducible repeat (first | apply Kd.V_alloc | apply Kd.V_drewN | apply Kd.V_drew)); exact Kd.V_mono HO191.out (fun _ hk => ⟨hk.1.1, ⟨hk.2, ⟨hk.1.2.1, hk.1.2.2⟩⟩⟩)), (by (with_reducible repeat (first | apply Kd.N_alloc | apply Kd.N_drewN | apply Kd.N_drew)); exact Kd.N_mono HO_6.out (fun _ hk => ⟨hk.1.1, ⟨hk.2, ⟨hk.1.2.1, hk.1.2.2⟩⟩⟩)), (zK BK160), (zB HB)⟩)
        rintro ⟨v171, v179, v182⟩ w47 ⟨hS_, h0_, h1_, h2_, h3_, h4_, h5_, h6_⟩
        have HO177 : Aside0 (Kd.V k46 46 w47 w.heap.size (fun k_ => (w.heap.size ≤ k_) ∧ some k_ ≠ (v179 : Value).ownBlock ∧ some k_ ≠ (v182 : Value).ownBlock ∧ k_ ≠ gb160) (.slice Ao39 y173.length co39) y173) := ⟨h0_⟩
        have HO180 : Aside0 (Kd.N k46 46 w47 w.heap.size (fun k_ => (w.heap.size ≤ k_) ∧ some k_ ≠ (v182 : Value).ownBlock ∧ k_ ≠ gb160) v179 y178) := ⟨h1_⟩
        have HO183 : Aside0 (Kd.N k46 46 w47 w.heap.size (fun k_ => (w.heap.size ≤ k_) ∧ some k_ ≠ (v179 : Value).ownBlock ∧ some k_ ≠ (.slice Ao39 t155.length co39 : Value).ownBlock ∧ k_ ≠ gb160) v182 y181) := ⟨h2_⟩
        have HO191 : Aside0 (Kd.V k46 46 w47 w.heap.size (fun k_ => (w.heap.size ≤ k_) ∧ some k_ ≠ (v179 : Value).ownBlock ∧ some k_ ≠ (v182 : Value).ownBlock ∧ k_ ≠ gb160) (.slice A40 y187.length c40) y187) := ⟨h3_⟩
        replace HO_6 : Aside0 (Kd.N k46 46 w47 w.heap.size (fun k_ => (w.heap.size ≤ k_) ∧ some k_ ≠ (v179 : Value).ownBlock ∧ some k_ ≠ (v182 : Value).ownBlock ∧ k_ ≠ gb160) (.slice Ao39 t155.length co39) t155) := ⟨h4_⟩
        replace BK160 : Aside0 (w47.heap[gb160]? = some (.cells #[.int .i64 t154, .slice Ao44 x161001_2.length co44] 46 (0, 0))) := ⟨h5_⟩
        replace HB : Aside0 (Below w.heap.size w w47) := ⟨h6_⟩
        clear HO_161001 h0_ h1_ h2_ h3_ h4_ h5_ h6_
        have hHeld : w47.cell? ⟨gb160, 0, none⟩ = some (.int .i64 t154) ∧ w47.cell? ⟨gb160, 1, none⟩ = some (.slice Ao44 x161001_2.length co44) := hS_
        obtain ⟨Ao49, co49, eo49⟩ := Kd.N_slice HO183.out
        (first | subst eo49 | (injection eo49 with f1_ f2_ f3_; have f4_ := f1_.symm; have f5_ := f3_.symm; clear f1_ f2_ f3_; subst f4_; subst f5_))
        refine norm_ (a' := ?_) ?_ ?_
        rotate_left
        ·simp only [putAll, Act.put, List.setIfInBounds_toArray, List.set_cons_zero, List.set_cons_succ]
         rfl
        refine one_ (i := 7) (N := some 56) (bm 13 2047) rfl rfl (one_of HT_.out (by kernel_rfl)) (by decide) (fun K hK => ?_)
        refine Kd.N_append_rows_step k46 (w0 := w) w.heap.size (by rfl) (.tmp 53) (.tmp 55) 24 46 (.agg #[(.int .i64 0), (.slice none 0 0)]) 32 rfl Try.underlying24 info46 rfl (by decide) (by omega) v179 y178 y181 _ _ _ (fun k_ => (w.heap.size ≤ k_) ∧ k_ ≠ gb160) (fun k_ => ((fun k_ => (w.heap.size ≤ k_) ∧ k_ ≠ gb160)) k_ ∧ some k_ ≠ (v179 : Value).ownBlock) rfl rfl ?aO ?aR (fun _ hk => hk) ?aF ?aB ?aS ?aL ?_
        (case aR => exact (by skip; exact Kd.N_F (Kd.N_mono (ok' := (fun k_ => ((fun k_ => (w.heap.size ≤ k_) ∧ k_ ≠ gb160)) k_ ∧ some k_ ≠ (v179 : Value).ownBlock)) (HO183.out) (fun k_ hk => ⟨⟨hk.1, hk.2.2.2⟩, hk.2.1⟩))))
        (case aB => exact (zB HB))
        (case aF => exact (fun k_ hk => ⟨(Nat.le_trans (below_size (zB HB)) hk), Kd.freshB (g := gb160) (o := .cells #[.int .i64 t154, .slice Ao44 x161001_2.length co44] 46 (0, 0)) (zK BK160) k_ hk⟩))
        (case aO => exact (by (with_reducible repeat (first | apply Kd.N_alloc | apply Kd.N_drewN | apply Kd.N_drew)); exact Kd.N_mono HO180.out (fun _ hk => ⟨hk.1, hk.2.2⟩)))
        (case aS => exact (below_size (zB HB)))
        (case aL => have := LMc32.out; omega)
        intro v185 w48 ho hb hg hat
        rw [← Ny184.out] at ho
        replace HO_6 := Aside0.mk (Kd.N_afterv (ok := (fun k_ => (w.heap.size ≤ k_) ∧ some k_ ≠ (.slice Ao49 y181.length co49 : Value).ownBlock ∧ k_ ≠ gb160)) (by (with_reducible repeat (first | apply Kd.N_alloc | apply Kd.N_drewN | apply Kd.N_drew)); exact Kd.N_mono HO_6.out (fun _ hk => ⟨⟨hk.1, ⟨hk.2.2.1, hk.2.2.2⟩⟩, hk.2.1⟩)) hg hat)
        replace BK160 := Aside0.mk (blk_grown (g := gb160) (o := .cells #[.int .i64 t154, .slice Ao44 x161001_2.length co44] 46 (0, 0)) (zK BK160) hg (Kd.N_away HO180.out (fun _ hk => hk.2.2)))
        replace HO177 := Aside0.mk (Kd.V_afterv (ok := (fun k_ => (w.heap.size ≤ k_) ∧ some k_ ≠ (.slice Ao49 y181.length co49 : Value).ownBlock ∧ k_ ≠ gb160)) (by (with_reducible repeat (first | apply Kd.V_alloc | apply Kd.V_drewN | apply Kd.V_drew)); exact Kd.V_mono HO177.out (fun _ hk => ⟨⟨hk.1, ⟨hk.2.2.1, hk.2.2.2⟩⟩, hk.2.1⟩)) hg hat)
        replace HO191 := Aside0.mk (Kd.V_afterv (ok := (fun k_ => (w.heap.size ≤ k_) ∧ some k_ ≠ (.slice Ao49 y181.length co49 : Value).ownBlock ∧ k_ ≠ gb160)) (by (with_reducible repeat (first | apply Kd.V_alloc | apply Kd.V_drewN | apply Kd.V_drew)); exact Kd.V_mono HO191.out (fun _ hk => ⟨⟨hk.1, ⟨hk.2.2.1, hk.2.2.2⟩⟩, hk.2.1⟩)) hg hat)
        replace HO183 := Aside0.mk (Kd.N_afterv (ok := (fun k_ => (w.heap.size ≤ k_) ∧ some k_ ≠ (.slice Ao39 t155.length co39 : Value).ownBlock ∧ k_ ≠ gb160)) (by (with_reducible repeat (first | apply Kd.N_alloc | apply Kd.N_drewN | apply Kd.N_drew)); exact Kd.N_mono HO183.out (fun _ hk => ⟨⟨hk.1, ⟨hk.2.2.1, hk.2.2.2⟩⟩, hk.2.1⟩)) hg hat)
        replace HB := Aside0.mk (hb)
        have HO186 := Aside0.mk (ho)
        clear HO180
        clear ho hb hg hat
        refine hK.out _ _ ⟨bc0 BK160, bc1 BK160⟩ (fun hHeld => ?_)
        clear hK K
        refine norm_ (a' := ?_) ?_ ?_
        rotate_left
        ·show Act.put _ (some 56) _ = _
         simp only [Act.put, List.setIfInBounds_toArray, List.set_cons_zero, List.set_cons_succ, i64_w, i32_w]
         rfl
        refine one_ (i := 11) (N := some 60) (bm 13 4095) rfl rfl (one_of HT_.out (by kernel_rfl)) (by decide) (fun K hK => ?_)
        refine Kd.N_append_rows_step k46 (w0 := w) w.heap.size (by rfl) (.tmp 56) (.tmp 59) 24 46 (.agg #[(.int .i64 0), (.slice none 0 0)]) 32 rfl Try.underlying24 info46 rfl (by decide) (by omega) v185 y184 y187 _ _ _ (fun k_ => (w.heap.size ≤ k_) ∧ k_ ≠ gb160) (fun k_ => ((fun k_ => (w.heap.size ≤ k_) ∧ k_ ≠ gb160)) k_ ∧ some k_ ≠ (v185 : Value).ownBlock) rfl rfl ?aO ?aR (fun _ hk => hk) ?aF ?aB ?aS ?aL ?_
        (case aR => exact (by skip; exact Kd.V_F (Kd.V_mono (ok' := (fun k_ => ((fun k_ => (w.heap.size ≤ k_) ∧ k_ ≠ gb160)) k_ ∧ some k_ ≠ (v185 : Value).ownBlock)) (HO191.out) (fun k_ hk => ⟨⟨hk.1.1, hk.1.2.2⟩, hk.2⟩))))
        (case aB => exact (zB HB))
        (case aF => exact (fun k_ hk => ⟨(Nat.le_trans (below_size (zB HB)) hk), Kd.freshB (g := gb160) (o := .cells #[.int .i64 t154, .slice Ao44 x161001_2.length co44] 46 (0, 0)) (zK BK160) k_ hk⟩))
        (case aO => exact (by (with_reducible repeat (first | apply Kd.N_alloc | apply Kd.N_drewN | apply Kd.N_drew)); exact HO186.out))
        (case aS => exact (below_size (zB HB)))
        (case aL => have := LMc35.out; omega)
        intro v193 w50 ho hb hg hat
        rw [← Ny192.out] at ho
        replace HO_6 := Aside0.mk (Kd.N_afterv (ok := (fun k_ => (w.heap.size ≤ k_) ∧ some k_ ≠ (.slice Ao49 y181.length co49 : Value).ownBlock ∧ k_ ≠ gb160)) (by (with_reducible repeat (first | apply Kd.N_alloc | apply Kd.N_drewN | apply Kd.N_drew)); exact HO_6.out) hg hat)
        replace BK160 := Aside0.mk (blk_grown (g := gb160) (o := .cells #[.int .i64 t154, .slice Ao44 x161001_2.length co44] 46 (0, 0)) (zK BK160) hg (Kd.N_away HO186.out (fun _ hk => hk.2)))
        replace HO177 := Aside0.mk (Kd.V_afterv (ok := (fun k_ => (w.heap.size ≤ k_) ∧ some k_ ≠ (.slice Ao49 y181.length co49 : Value).ownBlock ∧ k_ ≠ gb160)) (by (with_reducible repeat (first | apply Kd.V_alloc | apply Kd.V_drewN | apply Kd.V_drew)); exact HO177.out) hg hat)
        replace HO191 := Aside0.mk (Kd.V_afterv (ok := (fun k_ => (w.heap.size ≤ k_) ∧ some k_ ≠ (.slice Ao49 y181.length co49 : Value).ownBlock ∧ k_ ≠ gb160)) (by (with_reducible repeat (first | apply Kd.V_alloc | apply Kd.V_drewN | apply Kd.V_drew)); exact HO191.out) hg hat)
        replace HO183 := Aside0.mk (Kd.N_afterv (ok := (fun k_ => (w.heap.size ≤ k_) ∧ some k_ ≠ (.slice Ao39 t155.length co39 : Value).ownBlock ∧ k_ ≠ gb160)) (by (with_reducible repeat (first | apply Kd.N_alloc | apply Kd.N_drewN | apply Kd.N_drew)); exact HO183.out) hg hat)
        replace HB := Aside0.mk (hb)
        have HO194 := Aside0.mk (ho)
        clear HO186
        clear ho hb hg hat
        refine hK.out _ _ ⟨bc0 BK160, bc1 BK160⟩ (fun hHeld => ?_)
        clear hK K
        refine norm_ (a' := ?_) ?_ ?_
        rotate_left
        ·show Act.put _ (some 60) _ = _
         simp only [Act.put, List.setIfInBounds_toArray, List.set_cons_zero, List.set_cons_succ, i64_w, i32_w]
         rfl
        refine pU 12 (some 4) (bm 13 8191) HT_ rfl rfl ?_
        refine done_ (done_of HT_.out (by kernel_rfl)) ?_
        try clear hHeld
        try go_wp2
        go_ret
        exact ⟨_, zE, by (with_reducible repeat (first | apply Kd.N_alloc | apply Kd.N_drewN | apply Kd.N_drew)); exact Kd.N_mono HO194.out (fun _ hk => hk.1), zB HB⟩
       ·rw [if_neg c29] at H
        exact absurd H (by simp)

/-! ### laws_toIntS: function 62 -/
def laws_toIntS.l0 : Nat → List Int → List Int → Int → Option (List Int)
 | 0, _, _, _ => none
 | k + 1, x0, x3, x4 => if x4 < (x0.length : Int) then (if 0 ≤ x4 then (if x4 < (x3.length : Int) then (laws_toIntS.l0 k x0 (x3.set (x4 : Int).toNat (rd x0 x4)) (wrap64 (x4 + 1))) else (none)) else (none)) else (some x3)
def laws_toIntS.f (k : Nat) (l0 : List Int) : Option (List Int) := if 0 ≤ (l0.length : Int) then (if ((l0.length : Int) : Int).toNat ≤ 35184372088832 then (laws_toIntS.l0 k l0 (List.replicate ((l0.length : Int) : Int).toNat 0) 0) else (none)) else (none)
theorem laws_toIntS.mono_l : ∀ k, (∀ y0 y1 y2, LeO (laws_toIntS.l0 k y0 y1 y2) (laws_toIntS.l0 (k + 1) y0 y1 y2))
 | 0 => fun _ _ _ r h => by simp [laws_toIntS.l0] at h
 | k + 1 => by
  have ih0 := laws_toIntS.mono_l k
  ·intro y0 y1 y2
   unfold laws_toIntS.l0
   repeat' first
   | (with_reducible exact ih0 _ _ _)
   | (with_reducible exact LeO.refl _)
   | (with_reducible exact LeO.none _)
   | (with_reducible refine LeO.ite ?_ ?_)
   | (with_reducible refine LeO.bind ?_ (fun _ => ?_))
   | exact ih0 _ _ _
   | exact LeO.none _
   | refine LeO.ite ?_ ?_
   | refine LeO.bind ?_ (fun _ => ?_)
theorem laws_toIntS.mono : ∀ a0 k, LeO (laws_toIntS.f k a0) (laws_toIntS.f (k + 1) a0) := by
 intro a0 k
 have ih0 := laws_toIntS.mono_l k
 unfold laws_toIntS.f
 repeat' first
   | (with_reducible exact ih0 _ _ _)
   | (with_reducible exact LeO.refl _)
   | (with_reducible exact LeO.none _)
   | (with_reducible refine LeO.ite ?_ ?_)
   | (with_reducible refine LeO.bind ?_ (fun _ => ?_))
   | exact ih0 _ _ _
   | exact LeO.none _
   | refine LeO.ite ?_ ?_
   | refine LeO.bind ?_ (fun _ => ?_)
set_option maxHeartbeats 8000000 in
set_option maxRecDepth 100000 in
theorem laws_toIntS.calls (k : Nat) (A0 : Option Addr) (c0 : Nat) (l0 : List Int) (r : List Int) (w : World) (hr0 : Kd.C (Kd.int .i64) w A0 l0.length l0) (hc0 : l0.length ≤ c0) (h : laws_toIntS.f k l0 = some r) :
  Calls Try.prog 62 #[.slice A0 l0.length c0] w fun e w' => ∃ v0_ : Value, e = .returned (v0_) ∧ Kd.R (Kd.int .i64) 3 w' w.heap.size (fun _ => True) v0_ r ∧ Below w.heap.size w w' := by
 have HR0 := Aside0.mk hr0
 have HC0 := Aside0.mk hc0
 clear hr0 hc0
 have HB := Aside0.mk (Below.refl w.heap.size w)
 have H : (if 0 ≤ (l0.length : Int) then (if ((l0.length : Int) : Int).toNat ≤ 35184372088832 then (laws_toIntS.l0 k l0 (List.replicate ((l0.length : Int) : Int).toNat 0) 0) else (none)) else (none)) = some r := h
 clear h
 by_cases c2 : 0 ≤ (l0.length : Int)
 ·rw [if_pos c2] at H
  have c2b0 := eq_true c2
  have c2b1 : decide (0 ≤ (l0.length : Int)) = true := decide_eq_true c2
  clear c2
  obtain ⟨c3, H⟩ := ifS H
  have c3b0 := eq_true c3
  have c3b1 : decide (((l0.length : Int) : Int).toNat ≤ 35184372088832) = true := decide_eq_true c3
  clear c3
  obtain ⟨y195, hy195⟩ : ∃ y_ : List Int, y_ = (List.replicate ((l0.length : Int) : Int).toNat 0) := ⟨_, rfl⟩
  replace H : (laws_toIntS.l0 k l0 y195 0) = some r := by first | (rw [hy195]; with_reducible exact H) | (have H2_ := (Option.bind_some _ _).symm.trans H; rw [hy195]; with_reducible exact H2_) | (have H2_ := (Option.bind_some _ _).symm.trans H; with_reducible exact H2_) | with_reducible exact H | (rw [hy195]; exact H) | exact H
  have Ny195 := Aside0.mk hy195
  clear hy195
  have H' := Aside0.mk H
  clear H
  go_enter Try.func62, Try.ntmps62
  go_wp2_with (first | ((with_reducible refine gate_dst (N := 7) rfl ?_); refine Kd.R_make (Kd.int .i64) _ 3 rfl (N := 7) rfl 38 _ _ rfl (l0.length : Int) rfl rfl Try.underlying38 (.int .i64 0) 8 info3 rfl (by decide) (by omega) 0 (ok := fun _ => True) (okp := fun _ => True) rfl (fun _ hk => hk) trivial (zD) (Nat.le_trans (Nat.mul_le_mul_right _ (zD : (l0.length : Int).toNat ≤ 35184372088832)) (by omega)) (Below.refl _ _) (Nat.le_refl _) ?_; intro v196 w4 ho5 hb hg_ hnew_; clear hg_ hnew_; (first | rw [← Ny195.out] at ho5 | (simp only [Int.reduceToNat] at ho5; rw [← Ny195.out] at ho5)); have HO197 := Aside0.mk (Kd.R_lower ho5 (below_size (zB HB))); replace HB := bS HB hb; clear hb ho5))
  go_loopg [4] k (fun kq v4 w' => ∃ (x3_1 : List Int) (x4_1 : Int), v4 = .int .i64 x4_1 ∧ Aside0 (laws_toIntS.l0 kq l0 x3_1 x4_1 = some r) ∧ Aside0 (kq ≤ k) ∧ Aside0 (Kd.R (Kd.int .i64) 3 w' w.heap.size (fun _ => True) v196 x3_1) ∧ Aside0 (Below w.heap.size w w'))
  case atStart => exact ⟨(y195), (0), zF, H', ⟨Nat.le_refl _⟩, ⟨zR HO197⟩, ⟨zB HB⟩⟩
  case round =>
   clear H'
   try clear c2
   try clear c2b0
   try clear c2b1
   try clear p2
   try clear c3
   try clear c3b0
   try clear c3b1
   obtain ⟨x3_1, x4_1, rfl, HA, HK1, HO_3, HB⟩ := hrel
   cases gk with
   | zero => exact absurd HA.out (by simp [laws_toIntS.l0])
   | succ k1 =>
    have H := HA.out
    clear HA
    simp only [laws_toIntS.l0] at H
    by_cases c6 : x4_1 < (l0.length : Int)
    ·rw [if_pos c6] at H
     have c6b0 : decide (x4_1 < (l0.length : Int)) = true := decide_eq_true c6
     clear c6
     obtain ⟨c7, H⟩ := ifS H
     have c7b0 : decide (0 ≤ x4_1) = true := decide_eq_true c7
     clear c7
     obtain ⟨c8, H⟩ := ifS H
     have c8b0 : decide (x4_1 < (x3_1.length : Int)) = true := decide_eq_true c8
     clear c8
     obtain ⟨y199, hy199⟩ : ∃ y_ : List Int, y_ = (x3_1.set (x4_1 : Int).toNat (rd l0 x4_1)) := ⟨_, rfl⟩
     replace H : (laws_toIntS.l0 k1 l0 y199 (wrap64 (x4_1 + 1))) = some r := by first | (rw [hy199]; with_reducible exact H) | (have H2_ := (Option.bind_some _ _).symm.trans H; rw [hy199]; with_reducible exact H2_) | (have H2_ := (Option.bind_some _ _).symm.trans H; with_reducible exact H2_) | with_reducible exact H | (rw [hy199]; exact H) | exact H
     have Ny199 := Aside0.mk hy199
     clear hy199
     have H' := Aside0.mk H
     clear H
     have p198 : 0 ≤ (x4_1 : Int) := zD
     have q198 : x4_1 < (l0.length : Int) := zD
     obtain ⟨ad198, e198, hx198_0⟩ := Kd.at_int HR0.out x4_1 p198 q198
     cases e198
     replace hx198_0 := hL HB hx198_0
     replace p198 := eq_true p198
     replace q198 := eq_true q198
     have p9 : 0 ≤ (x4_1 : Int) := zD
     have q9 : (x4_1 : Int) < ((x3_1.length : Int) : Int) := zD
     obtain ⟨go9, co9, eo9, gb9, gl9, cl9, HG9⟩ := Kd.R_form HO_3.out (by omega)
     (first | cases eo9 | (injection eo9 with ea_ en_ ec_; (first | subst ea_ | (injection ea_ with ea_; subst ea_)); subst ec_; clear en_))
     have GB9 := Aside0.mk gb9
     have GG9 := Aside0.mk HG9
     clear gb9 gl9 HG9
     obtain ⟨hx9_0, hf9_0⟩ := Kd.R_celln 0 HO_3.out (x4_1 : Int) p9 q9
     replace p9 := eq_true p9
     replace q9 := eq_true q9
     have HP10 := Kd.R_putg HO_3.out (x4_1 : Int) (rd l0 x4_1)
     go_wp2_with (first | ((with_reducible refine gate_store (t := 3) (p := 20) rfl ?_); refine store_event (t := 3) (p := 20) (v := ?vo_w11) (w1 := (wr.setCell ⟨go9, (x4_1 : Int).toNat, none⟩ (.int .i64 (rd l0 x4_1)))) ?hg ?ho ?hn ?hr ?_; (case ho => rfl); (case hg => rfl); (case hn => rfl); (case hr => first | (go_simp; done) | (go_simp; rfl)); intro w11 hw; have hg : wr.grownBy w11 (some go9) := (by rw [hw]; exact HP10.2); have hp_ : Kd.R (Kd.int .i64) 3 w11 w.heap.size (fun _ => True) (.slice (some ⟨go9, 0, none⟩) x3_1.length co9) y199 := (by rw [hw, Ny199.out]; exact HP10.1); clear HP10; replace HO_3 := Aside0.mk (hp_); replace HB := Aside0.mk ((by rw [hw]; exact below_set (HB.out) GB9.out : Below w.heap.size w w11)); clear hg hw hp_))
     go_roundg k1
     case measure => have := HK1.out; omega
     case rel => exact ⟨(y199), (wrap64 (x4_1 + 1)), zF, H', ⟨by have := HK1.out; omega⟩, ⟨zR HO_3⟩, ⟨zB HB⟩⟩
    ·rw [if_neg c6] at H
     have c6b0 : decide (x4_1 < (l0.length : Int)) = false := decide_eq_false c6
     clear c6
     obtain rfl := Option.some.inj H
     go_wp2
     go_ret
     exact ⟨_, zE, by (with_reducible repeat (first | apply Kd.R_alloc | apply Kd.R_drewN | apply Kd.R_drew)); exact HO_3.out, zB HB⟩
 ·rw [if_neg c2] at H
  exact absurd H (by simp)

/-! ### laws_toExt: function 31 -/
def laws_toExt.f (k : Nat) (a0_0 : Int) (l0_1 : List Int) : Option (Int × List Int) := (laws_toIntS.f k l0_1).bind fun t203 => (some (a0_0, t203))
theorem laws_toExt.mono : ∀ a0 a1 k, LeO (laws_toExt.f k a0 a1) (laws_toExt.f (k + 1) a0 a1) := by
 intro a0 a1 k
 unfold laws_toExt.f
 repeat' first
   | (with_reducible exact laws_toIntS.mono _ _)
   | (with_reducible exact LeO.refl _)
   | (with_reducible exact LeO.none _)
   | (with_reducible refine LeO.ite ?_ ?_)
   | (with_reducible refine LeO.bind ?_ (fun _ => ?_))
   | exact laws_toIntS.mono _ _
   | exact LeO.none _
   | refine LeO.ite ?_ ?_
   | refine LeO.bind ?_ (fun _ => ?_)
set_option maxHeartbeats 8000000 in
set_option maxRecDepth 100000 in
theorem laws_toExt.calls (k : Nat) (a0_0 : Int) (A0_1 : Option Addr) (c0_1 : Nat) (l0_1 : List Int) (r1 : Int) (r2 : List Int) (w : World) (hr0_1 : Kd.C (Kd.int .i64) w A0_1 l0_1.length l0_1) (hc0_1 : l0_1.length ≤ c0_1) (h : laws_toExt.f k a0_0 l0_1 = some (r1, r2)) :
  Calls Try.prog 31 #[.agg #[.int .i64 a0_0, .slice A0_1 l0_1.length c0_1]] w fun e w' => ∃ v1_ : Value, e = .returned (.agg #[.int .i64 r1, v1_]) ∧ Kd.R (Kd.int .i64) 3 w' w.heap.size (fun _ => True) v1_ r2 ∧ Below w.heap.size w w' := by
 have hu45 := Try.underlying45
 have hu46 := Try.underlying46
 have HR0_1 := Aside0.mk hr0_1
 have HC0_1 := Aside0.mk hc0_1
 clear hr0_1 hc0_1
 have HB := Aside0.mk (Below.refl w.heap.size w)
 have H : ((laws_toIntS.f k l0_1).bind fun t203 => (some (a0_0, t203))) = some (r1, r2) := h
 clear h
 obtain ⟨t203, A2, H⟩ := bindS H
 simp only [Option.some.injEq, Prod.mk.injEq] at H
 obtain ⟨rfl, rfl⟩ := H
 go_enter Try.func31, Try.ntmps31
 go_wp2_with (first | ((with_reducible refine gate_dst (N := 1) rfl ?_); refine box_event ?hg (N := 1) ?hd (cs := #[.int .i64 a0_0, .slice A0_1 l0_1.length c0_1]) (t := 45) ?hr ?_; (case hd => rfl); (case hg => rfl); (case hr => first | (go_simp; done) | (go_simp; rfl)); intro gb200 hg w3 hbox hb; have BK200 := Aside0.mk (hbox); have GW200 := gS HB hg; have GE200 := gS HB hg; replace HB := bS HB hb; clear hb hbox hg) | ((with_reducible refine gate_dst (N := 2) rfl ?_); refine box_event ?hg (N := 2) ?hd (cs := #[.int .i64 0, .slice none 0 0]) (t := 46) ?hr ?_; (case hd => rfl); (case hg => rfl); (case hr => first | (go_simp; done) | (go_simp; rfl)); intro gb201 hg w4 hbox hb; have BK201 := Aside0.mk (hbox); have GW201 := gS HB hg; have GE201 := gS HB hg; replace HB := bS HB hb; have NB200_201 := nL BK200 hg; have NB201_200 := nR BK200 hg; replace BK200 := kB BK200 hb; clear hb hbox hg) | ((with_reducible refine gate_dst (N := 3) rfl ?_); refine box_event ?hg (N := 3) ?hd (cs := #[.int .i64 0, .slice none 0 0]) (t := 46) ?hr ?_; (case hd => rfl); (case hg => rfl); (case hr => first | (go_simp; done) | (go_simp; rfl)); intro gb202 hg w5 hbox hb; have BK202 := Aside0.mk (hbox); have GW202 := gS HB hg; have GE202 := gS HB hg; replace HB := bS HB hb; have NB200_202 := nL BK200 hg; have NB202_200 := nR BK200 hg; replace BK200 := kB BK200 hb; have NB201_202 := nL BK201 hg; have NB202_201 := nR BK201 hg; replace BK201 := kB BK201 hb; clear hb hbox hg; have hnb6 := NB200_201.out; have hnc6 := NB201_200.out; have hnb7 := NB200_202.out; have hnc7 := NB202_200.out; have hcz8_0 := bc0 BK200; have hcz8_1 := bc1 BK200; have hfz8_0 := bf BK200 0; have hfz8_1 := bf BK200 1; have hnb9 := NB202_201.out; have hnc9 := NB201_202.out; have hcz10_0 := bc0 BK202; have hcz10_1 := bc1 BK202; have hfz10_0 := bf BK202 0; have hfz10_1 := bf BK202 1) | ((with_reducible refine gate_callee (f := 62) rfl ?_); refine goesL_ (some 9) rfl rfl Try.func62 (by kernel_rfl) rfl #[.slice A0_1 l0_1.length c0_1] rfl zG ?_; (with_reducible refine (laws_toIntS.calls k _ _ l0_1 t203 _ ?side1 ?side2 A2.out).mono ?_); (case side1 => exact Kd.C_below HR0_1.out (zB HB)); (case side2 => exact HC0_1.out); rintro e w11 ⟨v204, rfl, ho0, hb⟩; refine ⟨_, rfl, ?_⟩; have HO205 := Aside0.mk (Kd.R_lower ho0 (below_size (zB HB))); replace BK200 := Aside0.mk (blk_below (g := gb200) (o := .cells #[.int .i64 a0_0, .slice A0_1 l0_1.length c0_1] 45 (0, 0)) (by (with_reducible repeat (first | refine blk_drewN ?_ _ | refine blk_drew ?_ | refine blk_alloc ?_ _)); refine blk_far ?_ NB200_202.out _; (with_reducible repeat (first | refine blk_drewN ?_ _ | refine blk_drew ?_ | refine blk_alloc ?_ _)); exact BK200.out) hb); replace BK201 := Aside0.mk (blk_below (g := gb201) (o := .cells #[.int .i64 0, .slice none 0 0] 46 (0, 0)) (by (with_reducible repeat (first | refine blk_drewN ?_ _ | refine blk_drew ?_ | refine blk_alloc ?_ _)); refine blk_far ?_ NB201_202.out _; (with_reducible repeat (first | refine blk_drewN ?_ _ | refine blk_drew ?_ | refine blk_alloc ?_ _)); exact BK201.out) hb); replace BK202 := Aside0.mk (blk_below (g := gb202) (o := .cells #[.int .i64 a0_0, .slice none 0 0] 46 (0, 0)) (by (with_reducible repeat (first | refine blk_drewN ?_ _ | refine blk_drew ?_ | refine blk_alloc ?_ _)); refine blk_put (cs := #[.int .i64 0, .slice none 0 0]) ?_ 0 _ rfl; (with_reducible repeat (first | refine blk_drewN ?_ _ | refine blk_drew ?_ | refine blk_alloc ?_ _)); exact BK202.out) hb); replace HB := bS HB hb; (try clear hb); (try clear ho0); obtain ⟨Ao12, co12, eo12⟩ := Kd.R_slice HO205.out; subst eo12; have hcz13_0 := bc0 BK202; have hcz13_1 := bc1 BK202; have hfz13_0 := bf BK202 0; have hfz13_1 := bf BK202 1; have hcz14_0 := bc0 BK201; have hcz14_1 := bc1 BK201; have hfz14_0 := bf BK201 0; have hfz14_1 := bf BK201 1))
 refine bodyPost_ret (results_cell_row rfl _ _ gb201 46 #[.int .i64 a0_0, .slice Ao12 t203.length co12] (0, 0) _ rfl (by (with_reducible repeat (first | refine blk_drewN ?_ _ | refine blk_drew ?_ | refine blk_alloc ?_ _)); refine blk_put (cs := #[.int .i64 a0_0, .slice none 0 0]) ?_ 1 _ rfl; (with_reducible repeat (first | refine blk_drewN ?_ _ | refine blk_drew ?_ | refine blk_alloc ?_ _)); refine blk_put (cs := #[.int .i64 0, .slice none 0 0]) ?_ 0 _ rfl; (with_reducible repeat (first | refine blk_drewN ?_ _ | refine blk_drew ?_ | refine blk_alloc ?_ _)); refine blk_far ?_ NB201_202.out _; (with_reducible repeat (first | refine blk_drewN ?_ _ | refine blk_drew ?_ | refine blk_alloc ?_ _)); exact BK201.out) Try.underlying46 rfl (by kernel_rfl)) rfl ?_
 exact ⟨_, zE, by (with_reducible repeat (first | apply Kd.R_alloc | apply Kd.R_drewN | apply Kd.R_drew)); exact Kd.R_mono (Kd.R_far (p := ⟨gb201, 1, none⟩) (Kd.R_far (p := ⟨gb201, 0, none⟩) (Kd.R_far (p := ⟨gb202, 1, none⟩) (Kd.R_types (Kd.R_types HO205.out BK202.out (by decide)) BK201.out (by decide)) (fun _ hk => hk.1.2) (.slice Ao12 t203.length co12)) (fun _ hk => hk.2) (.int .i64 a0_0)) (fun _ hk => hk.2) (.slice Ao12 t203.length co12)) (fun _ hk => trivial), zB HB⟩

end Go.Proofs.Ytbahcefcoplmpaa.PFnExactAddGrease
