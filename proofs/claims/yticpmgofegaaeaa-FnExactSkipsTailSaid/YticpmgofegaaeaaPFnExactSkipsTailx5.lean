-- WRITTEN by pp.py, this session's own wrapper around the print; not trusted: Lean checks it
import Derived.Test.YticpmgofegaaeaaPFnExactSkipsTailx0
import Derived.Test.YticpmgofegaaeaaPFnExactSkipsTailx2
import Derived.Test.YticpmgofegaaeaaPFnExactSkipsTailx3
import Derived.Test.YticpmgofegaaeaaPFnExactSkipsTailx4
namespace Go.Proofs.Yticpmgofegaaeaa.PFnExactSkipsTail
open Go.RowKit Go.Proofs.Yticpmgofegaaeaa.Hw Go.Proofs.YticpmgofegaaeaaW.PrintWords Go.Proofs.YticpmgofegaaeaaW.PrintLast Go.Proofs.YticpmgofegaaeaaW.PrintMore
attribute [local go_sem] max2_int min2_int max_two min_two max_three min_three max_four min_four   -- for this text's walks alone
set_option linter.unusedVariables false
set_option linter.unusedSimpArgs false
set_option linter.unusedSectionVars false

/-! ### spec_MakeMessage: function 26 -/
mutual
def spec_MakeMessage.l0 : Nat → List (S47) → Int → List (S58) → Int → Option ((List (S58)))
 | 0, _, _, _, _ => none
 | k + 1, x0, x1, x5, x6 => if x6 < (x0.length : Int) then ((spec_IsFormat.f k x0).bind fun t171 => (spec_MakeMessage.j1 k x0 x1 x5 x6 t171)) else (spec_MakeMessage.j1 k x0 x1 x5 x6 false)
def spec_MakeMessage.j1 : Nat → List (S47) → Int → List (S58) → Int → Bool → Option ((List (S58)))
 | 0, _, _, _, _, _ => none
 | k + 1, x0, x1, x5, x6, x18 => if x18 = true then ((spec_IsThere.f x0 x5 x6).bind fun t173 => (if t173 = true then (if 0 ≤ x6 then (if x6 < (x0.length : Int) then ((spec_PickOf.f k x1 (wrap64 (16 * x6)) (wrap64 (((rd_T47 x0 x6).f1) + 1))).bind fun t175 => (if ((rd_T47 x0 x6).f0) = 1 then (spec_MakeMessage.j2 k x0 x1 x5 x6 t175 t175) else (spec_MakeMessage.j2 k x0 x1 x5 x6 t175 0))) else (none)) else (none)) else (if x5.length < 4398046511104 then (spec_MakeMessage.l0 k x0 x1 (x5 ++ [(⟨0, ([] : List Int)⟩ : S58)]) (wrap64 (x6 + 1))) else (none)))) else (some x5)
def spec_MakeMessage.j2 : Nat → List (S47) → Int → List (S58) → Int → Int → Int → Option ((List (S58)))
 | 0, _, _, _, _, _, _ => none
 | k + 1, x0, x1, x5, x6, x8, x173000 => spec_MakeMessage.l1 k x0 x1 x5 x6 x8 0 x173000 ([] : List Int)
def spec_MakeMessage.l1 : Nat → List (S47) → Int → List (S58) → Int → Int → Int → Int → List Int → Option ((List (S58)))
 | 0, _, _, _, _, _, _, _, _ => none
 | k + 1, x0, x1, x5, x6, x8, x9, x173000, x173001 => if x9 < x8 then (if 0 ≤ x6 then (if x6 < (x0.length : Int) then (if ((rd_T47 x0 x6).f0) = 1 then (if x5.length < 4398046511104 then (spec_MakeMessage.l0 k x0 x1 (x5 ++ [(⟨x173000, x173001⟩ : S58)]) (wrap64 (x6 + 1))) else (none)) else ((spec_PickOf.f k x1 (wrap64 ((wrap64 ((wrap64 (16 * x6)) + x9)) + 1)) 100).bind fun t181 => (if x173001.length < 17592186044416 then (spec_MakeMessage.l1 k x0 x1 x5 x6 x8 (wrap64 (x9 + 1)) x173000 (x173001 ++ [t181])) else (none)))) else (none)) else (none)) else (if x5.length < 4398046511104 then (spec_MakeMessage.l0 k x0 x1 (x5 ++ [(⟨x173000, x173001⟩ : S58)]) (wrap64 (x6 + 1))) else (none))
end
def spec_MakeMessage.f (k : Nat) (l0 : List (S47)) (a1 : Int) : Option ((List (S58))) := spec_MakeMessage.l0 k l0 a1 (([] : List (S58))) 0
theorem spec_MakeMessage.mono_l : ∀ k, (∀ y0 y1 y2 y3, LeO (spec_MakeMessage.l0 k y0 y1 y2 y3) (spec_MakeMessage.l0 (k + 1) y0 y1 y2 y3)) ∧ (∀ y0 y1 y2 y3 y4, LeO (spec_MakeMessage.j1 k y0 y1 y2 y3 y4) (spec_MakeMessage.j1 (k + 1) y0 y1 y2 y3 y4)) ∧ (∀ y0 y1 y2 y3 y4 y5, LeO (spec_MakeMessage.j2 k y0 y1 y2 y3 y4 y5) (spec_MakeMessage.j2 (k + 1) y0 y1 y2 y3 y4 y5)) ∧ (∀ y0 y1 y2 y3 y4 y5 y6 y7, LeO (spec_MakeMessage.l1 k y0 y1 y2 y3 y4 y5 y6 y7) (spec_MakeMessage.l1 (k + 1) y0 y1 y2 y3 y4 y5 y6 y7))
 | 0 => ⟨fun _ _ _ _ r h => by simp [spec_MakeMessage.l0] at h, fun _ _ _ _ _ r h => by simp [spec_MakeMessage.j1] at h, fun _ _ _ _ _ _ r h => by simp [spec_MakeMessage.j2] at h, fun _ _ _ _ _ _ _ _ r h => by simp [spec_MakeMessage.l1] at h⟩
 | k + 1 => by
  obtain ⟨ih0, ih1, ih2, ih3⟩ := spec_MakeMessage.mono_l k
  refine ⟨?_, ?_, ?_, ?_⟩
  ·intro y0 y1 y2 y3
   unfold spec_MakeMessage.l0
   repeat' first
   | (with_reducible exact ih0 _ _ _ _)
   | (with_reducible exact ih1 _ _ _ _ _)
   | (with_reducible exact ih2 _ _ _ _ _ _)
   | (with_reducible exact ih3 _ _ _ _ _ _ _ _)
   | (with_reducible exact spec_IsFormat.mono _ _)
   | (with_reducible exact spec_PickOf.mono _ _ _ _)
   | (with_reducible exact LeO.refl _)
   | (with_reducible exact LeO.none _)
   | (with_reducible refine LeO.ite ?_ ?_)
   | (with_reducible refine LeO.bind ?_ (fun _ => ?_))
   | exact ih0 _ _ _ _
   | exact ih1 _ _ _ _ _
   | exact ih2 _ _ _ _ _ _
   | exact ih3 _ _ _ _ _ _ _ _
   | exact spec_IsFormat.mono _ _
   | exact spec_PickOf.mono _ _ _ _
   | exact LeO.none _
   | refine LeO.ite ?_ ?_
   | refine LeO.bind ?_ (fun _ => ?_)
  ·intro y0 y1 y2 y3 y4
   unfold spec_MakeMessage.j1
   repeat' first
   | (with_reducible exact ih0 _ _ _ _)
   | (with_reducible exact ih1 _ _ _ _ _)
   | (with_reducible exact ih2 _ _ _ _ _ _)
   | (with_reducible exact ih3 _ _ _ _ _ _ _ _)
   | (with_reducible exact spec_IsFormat.mono _ _)
   | (with_reducible exact spec_PickOf.mono _ _ _ _)
   | (with_reducible exact LeO.refl _)
   | (with_reducible exact LeO.none _)
   | (with_reducible refine LeO.ite ?_ ?_)
   | (with_reducible refine LeO.bind ?_ (fun _ => ?_))
   | exact ih0 _ _ _ _
   | exact ih1 _ _ _ _ _
   | exact ih2 _ _ _ _ _ _
   | exact ih3 _ _ _ _ _ _ _ _
   | exact spec_IsFormat.mono _ _
   | exact spec_PickOf.mono _ _ _ _
   | exact LeO.none _
   | refine LeO.ite ?_ ?_
   | refine LeO.bind ?_ (fun _ => ?_)
  ·intro y0 y1 y2 y3 y4 y5
   unfold spec_MakeMessage.j2
   repeat' first
   | (with_reducible exact ih0 _ _ _ _)
   | (with_reducible exact ih1 _ _ _ _ _)
   | (with_reducible exact ih2 _ _ _ _ _ _)
   | (with_reducible exact ih3 _ _ _ _ _ _ _ _)
   | (with_reducible exact spec_IsFormat.mono _ _)
   | (with_reducible exact spec_PickOf.mono _ _ _ _)
   | (with_reducible exact LeO.refl _)
   | (with_reducible exact LeO.none _)
   | (with_reducible refine LeO.ite ?_ ?_)
   | (with_reducible refine LeO.bind ?_ (fun _ => ?_))
   | exact ih0 _ _ _ _
   | exact ih1 _ _ _ _ _
   | exact ih2 _ _ _ _ _ _
   | exact ih3 _ _ _ _ _ _ _ _
   | exact spec_IsFormat.mono _ _
   | exact spec_PickOf.mono _ _ _ _
   | exact LeO.none _
   | refine LeO.ite ?_ ?_
   | refine LeO.bind ?_ (fun _ => ?_)
  ·intro y0 y1 y2 y3 y4 y5 y6 y7
   unfold spec_MakeMessage.l1
   repeat' first
   | (with_reducible exact ih0 _ _ _ _)
   | (with_reducible exact ih1 _ _ _ _ _)
   | (with_reducible exact ih2 _ _ _ _ _ _)
   | (with_reducible exact ih3 _ _ _ _ _ _ _ _)
   | (with_reducible exact spec_IsFormat.mono _ _)
   | (with_reducible exact spec_PickOf.mono _ _ _ _)
   | (with_reducible exact LeO.refl _)
   | (with_reducible exact LeO.none _)
   | (with_reducible refine LeO.ite ?_ ?_)
   | (with_reducible refine LeO.bind ?_ (fun _ => ?_))
   | exact ih0 _ _ _ _
   | exact ih1 _ _ _ _ _
   | exact ih2 _ _ _ _ _ _
   | exact ih3 _ _ _ _ _ _ _ _
   | exact spec_IsFormat.mono _ _
   | exact spec_PickOf.mono _ _ _ _
   | exact LeO.none _
   | refine LeO.ite ?_ ?_
   | refine LeO.bind ?_ (fun _ => ?_)
theorem spec_MakeMessage.mono : ∀ a0 a1 k, LeO (spec_MakeMessage.f k a0 a1) (spec_MakeMessage.f (k + 1) a0 a1) := by
 intro a0 a1 k
 obtain ⟨ih0, ih1, ih2, ih3⟩ := spec_MakeMessage.mono_l k
 unfold spec_MakeMessage.f
 repeat' first
   | (with_reducible exact ih0 _ _ _ _)
   | (with_reducible exact ih1 _ _ _ _ _)
   | (with_reducible exact ih2 _ _ _ _ _ _)
   | (with_reducible exact ih3 _ _ _ _ _ _ _ _)
   | (with_reducible exact spec_IsFormat.mono _ _)
   | (with_reducible exact spec_PickOf.mono _ _ _ _)
   | (with_reducible exact LeO.refl _)
   | (with_reducible exact LeO.none _)
   | (with_reducible refine LeO.ite ?_ ?_)
   | (with_reducible refine LeO.bind ?_ (fun _ => ?_))
   | exact ih0 _ _ _ _
   | exact ih1 _ _ _ _ _
   | exact ih2 _ _ _ _ _ _
   | exact ih3 _ _ _ _ _ _ _ _
   | exact spec_IsFormat.mono _ _
   | exact spec_PickOf.mono _ _ _ _
   | exact LeO.none _
   | refine LeO.ite ?_ ?_
   | refine LeO.bind ?_ (fun _ => ?_)
def spec_MakeMessage.T13 : Bool × List (List Nat × List Nat) := (true, [([], []), ([0], [0]), ([], []), ([], []), ([3], [3]), ([], []), ([4, 5], [4, 5]), ([6], [6]), ([2, 7], [2, 7]), ([8], [8]), ([1, 9, 8], [1, 9]), ([0, 1, 2, 3, 4, 5, 6, 7, 8, 9, 10], []), ([11, 10, 10, 0, 1, 2, 3, 4, 5, 6, 7, 8, 9, 10], [10, 11])])
def spec_MakeMessage.B13 : List Nat := [0, 1, 0, 0, 8, 0, 56, 120, 252, 508, 1023, 2047, 4095]
theorem spec_MakeMessage.tab13 : rtab .any (opsOf Try.f26 13) = spec_MakeMessage.T13 := by kernel_rfl
theorem spec_MakeMessage.bits13 : waitsOk spec_MakeMessage.T13.2 spec_MakeMessage.B13 = true := by kernel_rfl
set_option maxHeartbeats 8000000 in
set_option maxRecDepth 100000 in
theorem spec_MakeMessage.calls (k : Nat) (A0 : Option Addr) (c0 : Nat) (l0 : List (S47)) (a1 : Int) (r : List (S58)) (w : World) (hr0 : Kd.C k47 w A0 l0.length l0) (hc0 : l0.length ≤ c0) (h : spec_MakeMessage.f k l0 a1 = some r) :
  Calls Try.prog 26 #[.slice A0 l0.length c0, .int .i64 a1] w fun e w' => ∃ v0_ : Value, e = .returned (v0_) ∧ Kd.S k58 58 w' w.heap.size (fun _ => True) v0_ r ∧ Below w.heap.size w w' := by
 have hu58 := Try.underlying58
 have HR0 := Aside0.mk hr0
 have HC0 := Aside0.mk hc0
 clear hr0 hc0
 have HB := Aside0.mk (Below.refl w.heap.size w)
 have H : (spec_MakeMessage.l0 k l0 a1 (([] : List (S58))) 0) = some r := h
 clear h
 obtain ⟨y168, hy168⟩ : ∃ y_ : List (S58), y_ = (([] : List (S58))) := ⟨_, rfl⟩
 replace H : (spec_MakeMessage.l0 k l0 a1 y168 0) = some r := by first | (rw [hy168]; with_reducible exact H) | (have H2_ := (Option.bind_some _ _).symm.trans H; rw [hy168]; with_reducible exact H2_) | (have H2_ := (Option.bind_some _ _).symm.trans H; with_reducible exact H2_) | with_reducible exact H | (rw [hy168]; exact H) | exact H
 have Ny168 := Aside0.mk hy168
 clear hy168
 have H' := Aside0.mk H
 clear H
 go_enter Try.func26, Try.ntmps26
 go_wp2_with (first | ((with_reducible refine gate_dst (N := 10) rfl ?_); refine Kd.S_lit k58 _ 58 ?hg (N := 10) ?hd (xs := ([] : List (S58))) (inner := []) (ok := fun _ => True) (okp := fun _ => True) ?hr ?hp (fun _ hk => hk) trivial (Below.refl _ _) (Nat.le_refl _) (by simp) ?_; (case hd => rfl); (case hg => rfl); (case hr => first | (go_simp; done) | (go_simp; rfl)); (case hp => exact (Reps.none _ _)); intro v169 w3 ho4 hb hg_ hnew_; clear hg_ hnew_; (first | rw [← Ny168.out] at ho4 | (simp only [Int.reduceToNat] at ho4; rw [← Ny168.out] at ho4)); have HO170 := Aside0.mk (Kd.S_lower ho4 (below_size (zB HB))); replace HB := bS HB hb; clear hb ho4))
 go_loopg [5, 6] k (fun kq v5 v6 w' => ∃ (x5_1 : List (S58)) (x6_1 : Int), v6 = .int .i64 x6_1 ∧ Aside0 (spec_MakeMessage.l0 kq l0 a1 x5_1 x6_1 = some r) ∧ Aside0 (kq ≤ k) ∧ Aside0 (Kd.S k58 58 w' w.heap.size (fun _ => True) v5 x5_1) ∧ Aside0 (Below w.heap.size w w'))
 case atStart => exact ⟨(y168), (0), zF, H', ⟨Nat.le_refl _⟩, ⟨zS HO170⟩, ⟨zB HB⟩⟩
 case round =>
  clear H'
  try clear c2
  try clear p2
  obtain ⟨x5_1, x6_1, rfl, HA, HK1, HO_5, HB⟩ := hrel
  cases gk with
  | zero => exact absurd HA.out (by simp [spec_MakeMessage.l0])
  | succ k1 =>
   have H := HA.out
   clear HA
   simp only [spec_MakeMessage.l0] at H
   have HC5 := Aside0.mk H
   clear H
   go_upto_region 3 with (fail)
   go_cut [18] (fun v18 wc => ∃ (kq : Nat) (x18_4 : Bool), v18 = .bool x18_4 ∧ Aside0 (spec_MakeMessage.j1 kq l0 a1 x5_1 x6_1 x18_4 = some r) ∧ Aside0 (kq ≤ k1) ∧ Aside0 (Kd.S k58 58 wc w.heap.size (fun _ => True) u5 x5_1) ∧ Aside0 (Below w.heap.size w wc))
   case first =>
    have H := HC5.out
    clear HC5
    by_cases c6 : x6_1 < (l0.length : Int)
    ·rw [if_pos c6] at H
     have c6b0 : decide (x6_1 < (l0.length : Int)) = true := decide_eq_true c6
     clear c6
     (first | rw [c6b0] | (simp only [i64_w, i32_w]; rw [c6b0]) | skip)
     obtain ⟨t171, A7, H⟩ := bindS H
     have H' := Aside0.mk H
     clear H
     go_wp2_with (first | (go_at_call 31; (with_reducible refine (spec_IsFormat.calls k1 _ _ l0 t171 _ ?side1 ?side2 A7.out).mono ?_); (case side1 => exact cS HR0 HB); (case side2 => exact HC0.out); rintro e w8 ⟨rfl, hb⟩; replace HO_5 := Aside0.mk (Kd.S_below (zS HO_5) hb); replace HB := bS HB hb; (try clear hb)))
     go_meet
     case rel => exact ⟨_, (t171), zF, H', ⟨by have := HK1.out; first | omega | exact Nat.le_refl _⟩, ⟨zS HO_5⟩, ⟨zB HB⟩⟩
    ·rw [if_neg c6] at H
     have c6b0 : decide (x6_1 < (l0.length : Int)) = false := decide_eq_false c6
     clear c6
     (first | rw [c6b0] | (simp only [i64_w, i32_w]; rw [c6b0]) | skip)
     have H' := Aside0.mk H
     clear H
     go_wp2
     go_meet
     case rel => exact ⟨_, (false), zF, H', ⟨by have := HK1.out; first | omega | exact Nat.le_refl _⟩, ⟨zS HO_5⟩, ⟨zB HB⟩⟩
   case rest =>
    clear HC5
    try clear c2
    try clear p2
    try clear c6
    try clear c6b0
    try clear p2
    obtain ⟨kq, x18_4, rfl, HA, HJ4, HO_5, HB⟩ := hcut
    cases kq with
    | zero => exact absurd HA.out (by simp [spec_MakeMessage.j1])
    | succ kj4 =>
     have H := HA.out
     clear HA
     simp only [spec_MakeMessage.j1] at H
     by_cases c9 : x18_4 = true
     ·subst c9
      have H1 : ((spec_IsThere.f l0 x5_1 x6_1).bind fun t173 => (if t173 = true then (if 0 ≤ x6_1 then (if x6_1 < (l0.length : Int) then ((spec_PickOf.f kj4 a1 (wrap64 (16 * x6_1)) (wrap64 (((rd_T47 l0 x6_1).f1) + 1))).bind fun t175 => (if ((rd_T47 l0 x6_1).f0) = 1 then (spec_MakeMessage.j2 kj4 l0 a1 x5_1 x6_1 t175 t175) else (spec_MakeMessage.j2 kj4 l0 a1 x5_1 x6_1 t175 0))) else (none)) else (none)) else (if x5_1.length < 4398046511104 then (spec_MakeMessage.l0 kj4 l0 a1 (x5_1 ++ [(⟨0, ([] : List Int)⟩ : S58)]) (wrap64 (x6_1 + 1))) else (none)))) = some r := by rw [if_pos rfl] at H; exact H
      clear H
      have H := H1
      clear H1
      obtain ⟨t173, A10, H⟩ := bindS H
      by_cases c11 : t173 = true
      ·subst c11
       have H1 : (if 0 ≤ x6_1 then (if x6_1 < (l0.length : Int) then ((spec_PickOf.f kj4 a1 (wrap64 (16 * x6_1)) (wrap64 (((rd_T47 l0 x6_1).f1) + 1))).bind fun t175 => (if ((rd_T47 l0 x6_1).f0) = 1 then (spec_MakeMessage.j2 kj4 l0 a1 x5_1 x6_1 t175 t175) else (spec_MakeMessage.j2 kj4 l0 a1 x5_1 x6_1 t175 0))) else (none)) else (none)) = some r := by rw [if_pos rfl] at H; exact H
       clear H
       have H := H1
       clear H1
       obtain ⟨c12, H⟩ := ifS H
       have c12b0 : decide (0 ≤ x6_1) = true := decide_eq_true c12
       clear c12
       obtain ⟨c13, H⟩ := ifS H
       have c13b0 : decide (x6_1 < (l0.length : Int)) = true := decide_eq_true c13
       clear c13
       obtain ⟨t175, A14, H⟩ := bindS H
       have HC15 := Aside0.mk H
       clear H
       go_upto_if 41 with (first | ((with_reducible refine gate_dst (N := 7) rfl ?_); refine box_event ?hg (N := 7) ?hd (cs := #[.int .i64 0, .slice none 0 0]) (t := 58) ?hr ?_; (case hd => rfl); (case hg => rfl); (case hr => first | (go_simp; done) | (go_simp; rfl)); intro gb172 hg w16 hbox hb; replace HO_5 := Aside0.mk (Kd.S_below (Kd.S_elderB (zS HO_5) gb172 (Nat.le_of_eq hg.symm)) hb); have BK172 := Aside0.mk (hbox); have GW172 := gS HB hg; have GE172 := gS HB hg; replace HB := bS HB hb; clear hb hbox hg; have hcz17_0 := bc0 BK172; have hcz17_1 := bc1 BK172; have hfz17_0 := bf BK172 0; have hfz17_1 := bf BK172 1; obtain ⟨Ao18, co18, eo18⟩ := Kd.S_slice HO_5.out; subst eo18) | ((with_reducible refine gate_callee (f := 43) rfl ?_); refine goesL_ (some 25) rfl rfl Try.func43 (by kernel_rfl) rfl #[.slice A0 l0.length c0, .slice Ao18 x5_1.length co18, .int .i64 x6_1] rfl zG ?_; (with_reducible refine (spec_IsThere.calls _ _ l0 _ _ x5_1 x6_1 true _ ?side1 ?side2 ?side3 ?side4 A10.out).mono ?_); (case side1 => exact Kd.C_below HR0.out (zB HB)); (case side2 => exact HC0.out); (case side3 => refine (Kd.S_reads' (e := 58) (base := w.heap.size) (ok := fun k_ => (True ∧ k_ ≠ gb172)) (n := x5_1.length) (c := co18) ?_).2.2; exact (by (with_reducible repeat (first | apply Kd.S_alloc | apply Kd.S_drewN | apply Kd.S_drew)); exact (Kd.S_mono (Kd.S_far (p := ⟨gb172, 1, none⟩) (Kd.S_far (p := ⟨gb172, 0, none⟩) (Kd.S_mono HO_5.out (fun k_ hk => (⟨hk, hk.2⟩ : _ ∧ k_ ≠ gb172))) (fun _ hk => hk.2) (.int .i64 0)) (fun _ hk => hk.2) (.slice none 0 0)) (fun _ h_ => h_.1)))); (case side4 => exact (Kd.S_reads' HO_5.out).2.1); rintro e w19 ⟨rfl, hb⟩; refine ⟨_, rfl, ?_⟩; replace HO_5 := Aside0.mk (Kd.S_below (by (with_reducible repeat (first | apply Kd.S_alloc | apply Kd.S_drewN | apply Kd.S_drew)); exact (Kd.S_mono (Kd.S_far (p := ⟨gb172, 1, none⟩) (Kd.S_far (p := ⟨gb172, 0, none⟩) (Kd.S_mono HO_5.out (fun k_ hk => (⟨hk, hk.2⟩ : _ ∧ k_ ≠ gb172))) (fun _ hk => hk.2) (.int .i64 0)) (fun _ hk => hk.2) (.slice none 0 0)) (fun _ h_ => h_.1))) hb); replace BK172 := Aside0.mk (blk_below (g := gb172) (o := .cells #[.int .i64 0, .slice none 0 0] 58 (0, 0)) (by (with_reducible repeat (first | refine blk_drewN ?_ _ | refine blk_drew ?_ | refine blk_alloc ?_ _)); refine blk_put (cs := #[.int .i64 0, .slice none 0 0]) ?_ 1 _ rfl; (with_reducible repeat (first | refine blk_drewN ?_ _ | refine blk_drew ?_ | refine blk_alloc ?_ _)); refine blk_put (cs := #[.int .i64 0, .slice none 0 0]) ?_ 0 _ rfl; (with_reducible repeat (first | refine blk_drewN ?_ _ | refine blk_drew ?_ | refine blk_alloc ?_ _)); exact BK172.out) hb); replace HB := bS HB hb; (try clear hb); have p174 : 0 ≤ (x6_1 : Int) := zD; have q174 : x6_1 < (l0.length : Int) := zD; obtain ⟨ad174, e174, hx174_0, hx174_1, hx174_2, hx174_3⟩ := at_T47 HR0.out x6_1 p174 q174; cases e174; replace hx174_0 := hL HB hx174_0; replace hx174_1 := hL HB hx174_1; replace hx174_2 := hL HB hx174_2; replace hx174_3 := hL HB hx174_3; replace p174 := eq_true p174; replace q174 := eq_true q174) | ((with_reducible refine gate_callee (f := 46) rfl ?_); refine goesL_ (some 35) rfl rfl Try.func46 (by kernel_rfl) rfl #[.int .i64 a1, .int .i64 (wrap64 (16 * x6_1)), .int .i64 (wrap64 (((rd_T47 l0 x6_1).f1) + 1))] rfl zG ?_; (with_reducible refine (spec_PickOf.calls kj4 a1 (wrap64 (16 * x6_1)) (wrap64 (((rd_T47 l0 x6_1).f1) + 1)) t175 _ A14.out).mono ?_); rintro e w20 ⟨rfl, hb⟩; refine ⟨_, rfl, ?_⟩; replace HO_5 := Aside0.mk (Kd.S_below (zS HO_5) hb); replace BK172 := kB BK172 hb; replace HB := bS HB hb; (try clear hb); have p176 : 0 ≤ (x6_1 : Int) := zD; have q176 : x6_1 < (l0.length : Int) := zD; obtain ⟨ad176, e176, hx176_0, hx176_1, hx176_2, hx176_3⟩ := at_T47 HR0.out x6_1 p176 q176; obtain rfl : ad174 = ad176 := (by injection e176); replace hx176_0 := hL HB hx176_0; replace hx176_1 := hL HB hx176_1; replace hx176_2 := hL HB hx176_2; replace hx176_3 := hL HB hx176_3; replace p176 := eq_true p176; replace q176 := eq_true q176))
       (try simp only [Act.put, List.setIfInBounds_toArray, List.set_cons_zero, List.set_cons_succ])
       go_cut [] (fun wc => ∃ (kq : Nat) (x173000_14 : Int), Aside0 (spec_MakeMessage.j2 kq l0 a1 x5_1 x6_1 t175 x173000_14 = some r) ∧ Aside0 (kq ≤ kj4) ∧ Aside0 (Kd.S k58 58 wc w.heap.size (fun k_ => k_ ≠ gb172) (.slice Ao18 x5_1.length co18) x5_1) ∧ Aside0 (wc.heap[gb172]? = some (.cells #[.int .i64 x173000_14, (.slice none 0 0)] 58 (0, 0))) ∧ Aside0 (Below w.heap.size w wc))
       case first =>
        have H := HC15.out
        clear HC15
        by_cases c21 : ((rd_T47 l0 x6_1).f0) = 1
        ·rw [if_pos c21] at H
         have c21b0 : (((rd_T47 l0 x6_1).f0) == 1) = true := beq_iff_eq.mpr c21
         have c21b1 : (((rd_T47 l0 x6_1).f0) != 1) = false := bne_eq_false_iff_eq.mpr c21
         clear c21
         (first | rw [c21b0] | (simp only [i64_w, i32_w]; rw [c21b0]) | skip)
         have H' := Aside0.mk H
         clear H
         have hcz22_0 := bc0 BK172
         have hcz22_1 := bc1 BK172
         have hfz22_0 := bf BK172 0
         have hfz22_1 := bf BK172 1
         go_wp2
         go_meet
         case rel => exact ⟨_, (t175), H', ⟨by have := HK1.out; have := HJ4.out; first | omega | exact Nat.le_refl _⟩, ⟨by (with_reducible repeat (first | apply Kd.S_alloc | apply Kd.S_drewN | apply Kd.S_drew)); exact Kd.S_mono (Kd.S_far (p := ⟨gb172, 0, none⟩) (Kd.S_mono HO_5.out (fun k_ hk => (⟨hk, hk.2⟩ : _ ∧ k_ ≠ gb172))) (fun _ hk => hk.2) (.int .i64 t175)) (fun _ hk => hk.1.2)⟩, ⟨by (with_reducible repeat (first | refine blk_drewN ?_ _ | refine blk_drew ?_ | refine blk_alloc ?_ _)); refine blk_put (cs := #[.int .i64 0, .slice none 0 0]) ?_ 0 _ rfl; (with_reducible repeat (first | refine blk_drewN ?_ _ | refine blk_drew ?_ | refine blk_alloc ?_ _)); exact BK172.out⟩, ⟨zB HB⟩⟩
        ·rw [if_neg c21] at H
         have c21b0 : (((rd_T47 l0 x6_1).f0) == 1) = false := beq_eq_false_iff_ne.mpr c21
         have c21b1 : (((rd_T47 l0 x6_1).f0) != 1) = true := bne_iff_ne.mpr c21
         (first | rw [c21b0] | (simp only [i64_w, i32_w]; rw [c21b0]) | skip)
         have H' := Aside0.mk H
         clear H
         go_wp2
         go_meet
         case rel => exact ⟨_, (0), H', ⟨by have := HK1.out; have := HJ4.out; first | omega | exact Nat.le_refl _⟩, ⟨by (with_reducible repeat (first | apply Kd.S_alloc | apply Kd.S_drewN | apply Kd.S_drew)); exact Kd.S_mono HO_5.out (fun _ hk => hk.2)⟩, ⟨zK BK172⟩, ⟨zB HB⟩⟩
       case rest =>
        clear HC15
        try clear c1
        try clear p1
        try clear q1
        try clear hx1
        try clear c2
        try clear p2
        try clear c4
        try clear c6
        try clear c6b0
        try clear p6
        try clear c9
        try clear c11
        try clear c12
        try clear c12b0
        try clear c13
        try clear c13b0
        try clear p17
        try clear q17
        try clear hx17
        try clear c21
        try clear c21b0
        try clear c21b1
        try clear hcz17_0
        try clear hcz17_1
        try clear hcz22_0
        try clear hcz22_1
        try clear hfz17_0
        try clear hfz17_1
        try clear hfz22_0
        try clear hfz22_1
        try clear hx174_0
        try clear hx174_1
        try clear hx174_2
        try clear hx174_3
        try clear hx176_0
        try clear hx176_1
        try clear hx176_2
        try clear hx176_3
        try clear p174
        try clear p176
        try clear p2
        try clear q174
        try clear q176
        obtain ⟨kq, x173000_14, HA, HJ14, HO_5, BK172, HB⟩ := hcut
        cases kq with
        | zero => exact absurd HA.out (by simp [spec_MakeMessage.j2])
        | succ kj14 =>
         have H := HA.out
         clear HA
         simp only [spec_MakeMessage.j2] at H
         have H' := Aside0.mk H
         clear H
         go_wp2
         go_loopg [9] kj14 (fun kq v9 w' => ∃ (x9_4 : Int) (x173001_4 : List Int) (u173001 : Value), v9 = .int .i64 x9_4 ∧ Aside0 (spec_MakeMessage.l1 kq l0 a1 x5_1 x6_1 t175 x9_4 x173000_14 x173001_4 = some r) ∧ Aside0 (kq ≤ kj14) ∧ Aside0 (Kd.S k58 58 w' w.heap.size (fun k_ => some k_ ≠ (u173001 : Value).ownBlock ∧ k_ ≠ gb172) (.slice Ao18 x5_1.length co18) x5_1) ∧ Aside0 (Kd.R (Kd.int .i64) 3 w' w.heap.size (fun _ => True) u173001 x173001_4) ∧ Aside0 (w'.heap[gb172]? = some (.cells #[.int .i64 x173000_14, u173001] 58 (0, 0))) ∧ Aside0 (Below w.heap.size w w'))
         case atStart => exact ⟨(0), (([] : List Int)), (.slice none 0 0), zF, H', ⟨Nat.le_refl _⟩, ⟨by (with_reducible repeat (first | apply Kd.S_alloc | apply Kd.S_drewN | apply Kd.S_drew)); exact Kd.S_mono HO_5.out (fun _ hk => ⟨(by simp [Value.ownBlock]), hk⟩)⟩, ⟨by first | exact Kd.R_nil _ _ _ _ _ | exact Kd.N_nil _ _ _ _ _ | exact Kd.V_nil _ _ _ _ _ | exact Kd.Q_nil _ _ _ _ _ | exact Kd.S_nil _ _ _ _ _⟩, ⟨zK BK172⟩, ⟨zB HB⟩⟩
         case round =>
          clear H'
          try clear c1
          try clear p1
          try clear q1
          try clear hx1
          try clear c2
          try clear p2
          try clear c4
          try clear c6
          try clear c6b0
          try clear p6
          try clear c9
          try clear c11
          try clear c12
          try clear c12b0
          try clear c13
          try clear c13b0
          try clear p17
          try clear q17
          try clear hx17
          try clear c21
          try clear c21b0
          try clear c21b1
          try clear hcz17_0
          try clear hcz17_1
          try clear hcz22_0
          try clear hcz22_1
          try clear hfz17_0
          try clear hfz17_1
          try clear hfz22_0
          try clear hfz22_1
          try clear hx174_0
          try clear hx174_1
          try clear hx174_2
          try clear hx174_3
          try clear hx176_0
          try clear hx176_1
          try clear hx176_2
          try clear hx176_3
          try clear p1
          try clear p17
          try clear p174
          try clear p176
          try clear p2
          try clear p6
          try clear q1
          try clear q17
          try clear q174
          try clear q176
          obtain ⟨x9_4, x173001_4, u173001, rfl, HA, HK4, HO_5, HO_173001, BK172, HB⟩ := hrel
          cases gk with
          | zero => exact absurd HA.out (by simp [spec_MakeMessage.l1])
          | succ k4 =>
           have H := HA.out
           clear HA
           simp only [spec_MakeMessage.l1] at H
           by_cases c23 : x9_4 < t175
           ·rw [if_pos c23] at H
            have c23b0 : decide (x9_4 < t175) = true := decide_eq_true c23
            clear c23
            obtain ⟨c24, H⟩ := ifS H
            have c24b0 : decide (0 ≤ x6_1) = true := decide_eq_true c24
            clear c24
            obtain ⟨c25, H⟩ := ifS H
            have c25b0 : decide (x6_1 < (l0.length : Int)) = true := decide_eq_true c25
            clear c25
            by_cases c26 : ((rd_T47 l0 x6_1).f0) = 1
            ·rw [if_pos c26] at H
             have c26b0 : (((rd_T47 l0 x6_1).f0) == 1) = true := beq_iff_eq.mpr c26
             have c26b1 : (((rd_T47 l0 x6_1).f0) != 1) = false := bne_eq_false_iff_eq.mpr c26
             clear c26
             obtain ⟨c27, H⟩ := ifS H
             have LMc27 := Aside0.mk c27
             clear c27
             obtain ⟨y178, hy178⟩ : ∃ y_ : List (S58), y_ = (x5_1 ++ [(⟨x173000_14, x173001_4⟩ : S58)]) := ⟨_, rfl⟩
             replace H : (spec_MakeMessage.l0 k4 l0 a1 y178 (wrap64 (x6_1 + 1))) = some r := by first | (rw [hy178]; with_reducible exact H) | (have H2_ := (Option.bind_some _ _).symm.trans H; rw [hy178]; with_reducible exact H2_) | (have H2_ := (Option.bind_some _ _).symm.trans H; with_reducible exact H2_) | with_reducible exact H | (rw [hy178]; exact H) | exact H
             have Ny178 := Aside0.mk hy178
             clear hy178
             have H' := Aside0.mk H
             clear H
             have p177 : 0 ≤ (x6_1 : Int) := zD
             have q177 : x6_1 < (l0.length : Int) := zD
             obtain ⟨ad177, e177, hx177_0, hx177_1, hx177_2, hx177_3⟩ := at_T47 HR0.out x6_1 p177 q177
             obtain rfl : ad174 = ad177 := (by injection e177)
             replace hx177_0 := hL HB hx177_0
             replace hx177_1 := hL HB hx177_1
             replace hx177_2 := hL HB hx177_2
             replace hx177_3 := hL HB hx177_3
             replace p177 := eq_true p177
             replace q177 := eq_true q177
             have hcz28_0 := bc0 BK172
             have hcz28_1 := bc1 BK172
             have hfz28_0 := bf BK172 0
             have hfz28_1 := bf BK172 1
             obtain ⟨Ao30, co30, eo30⟩ := Kd.R_slice HO_173001.out
             subst eo30
             go_wp2_with (first | ((with_reducible refine gate_builtin (b := .append) (xs := #[.tmp 69, .tmp 71]) rfl ?_); at_builtin; refine Kd.S_append k58 (w0 := w) w.heap.size rfl (.tmp 69) (.tmp 71) 39 58 (.agg #[(.int .i64 0), (.slice none 0 0)]) 32 rfl Try.underlying39 info58 rfl (by decide) (by omega) (.slice Ao18 x5_1.length co18) x5_1 (⟨x173000_14, x173001_4⟩ : S58) [.int .i64 x173000_14, .slice Ao30 x173001_4.length co30] (fun k_ => k_ ≠ gb172) (fun k_ => some k_ = (.slice Ao30 x173001_4.length co30 : Value).ownBlock) rfl rfl ?aP (fun k_ hk_ => ((Kd.R_mono (ok' := fun k_ => ((fun k_ => k_ ≠ gb172)) k_ ∧ some k_ ≠ (.slice Ao18 x5_1.length co18 : Value).ownBlock) (Kd.R_types (Kd.R_apart' (HO_173001.out) (Kd.S_typed HO_5.out) (by decide)) BK172.out (by decide)) (fun k_ hk => ⟨hk.2, hk.1.2⟩))).1 k_ hk_.symm) ?aF ?aO ?aB ?aS ?aL ?_; (case aP => exact k58_mkM _ _ _ (⟨x173000_14, x173001_4⟩ : S58) (Kd.R_mono (Kd.R_tight rfl (Kd.R_mono (ok' := fun k_ => ((fun k_ => k_ ≠ gb172)) k_ ∧ some k_ ≠ (.slice Ao18 x5_1.length co18 : Value).ownBlock) (Kd.R_types (Kd.R_apart' (HO_173001.out) (Kd.S_typed HO_5.out) (by decide)) BK172.out (by decide)) (fun k_ hk => ⟨hk.2, hk.1.2⟩))) (fun _ h_ => h_))); (case aB => exact (zB HB)); (case aF => exact (fun k_ hk => Kd.freshB (g := gb172) (o := .cells #[.int .i64 x173000_14, .slice Ao30 x173001_4.length co30] 58 (0, 0)) (zK BK172) k_ hk)); (case aO => exact (by (with_reducible repeat (first | apply Kd.S_alloc | apply Kd.S_drewN | apply Kd.S_drew)); exact Kd.S_mono HO_5.out (fun k_ hk => ⟨hk.2, fun e_ => hk.1 e_⟩))); (case aS => exact (below_size (zB HB))); (case aL => have := LMc27.out; omega); intro v179 w29 ho hb hg hat; rw [← Ny178.out] at ho; replace BK172 := Aside0.mk (blk_grown (g := gb172) (o := .cells #[.int .i64 x173000_14, .slice Ao30 x173001_4.length co30] 58 (0, 0)) (zK BK172) hg (Kd.S_away HO_5.out (fun _ hk => hk.2))); replace HB := Aside0.mk (hb); have HO180 := Aside0.mk (ho); clear HO_5 HO_173001; clear ho hb hg hat))
             go_roundg k4
             case measure => have := HK1.out; have := HJ4.out; have := HJ14.out; have := HK4.out; omega
             case rel => exact ⟨(y178), (wrap64 (x6_1 + 1)), zF, H', ⟨by have := HK1.out; have := HJ4.out; have := HJ14.out; have := HK4.out; omega⟩, ⟨by (with_reducible repeat (first | apply Kd.S_alloc | apply Kd.S_drewN | apply Kd.S_drew)); exact Kd.S_mono HO180.out (fun _ hk => trivial)⟩, ⟨zB HB⟩⟩
            ·rw [if_neg c26] at H
             have c26b0 : (((rd_T47 l0 x6_1).f0) == 1) = false := beq_eq_false_iff_ne.mpr c26
             have c26b1 : (((rd_T47 l0 x6_1).f0) != 1) = true := bne_iff_ne.mpr c26
             obtain ⟨t181, A31, H⟩ := bindS H
             obtain ⟨c32, H⟩ := ifS H
             have LMc32 := Aside0.mk c32
             clear c32
             obtain ⟨y182, hy182⟩ : ∃ y_ : List Int, y_ = (x173001_4 ++ [t181]) := ⟨_, rfl⟩
             replace H : (spec_MakeMessage.l1 k4 l0 a1 x5_1 x6_1 t175 (wrap64 (x9_4 + 1)) x173000_14 y182) = some r := by first | (rw [hy182]; with_reducible exact H) | (have H2_ := (Option.bind_some _ _).symm.trans H; rw [hy182]; with_reducible exact H2_) | (have H2_ := (Option.bind_some _ _).symm.trans H; with_reducible exact H2_) | with_reducible exact H | (rw [hy182]; exact H) | exact H
             have Ny182 := Aside0.mk hy182
             clear hy182
             have H' := Aside0.mk H
             clear H
             have p177 : 0 ≤ (x6_1 : Int) := zD
             have q177 : x6_1 < (l0.length : Int) := zD
             obtain ⟨ad177, e177, hx177_0, hx177_1, hx177_2, hx177_3⟩ := at_T47 HR0.out x6_1 p177 q177
             obtain rfl : ad174 = ad177 := (by injection e177)
             replace hx177_0 := hL HB hx177_0
             replace hx177_1 := hL HB hx177_1
             replace hx177_2 := hL HB hx177_2
             replace hx177_3 := hL HB hx177_3
             replace p177 := eq_true p177
             replace q177 := eq_true q177
             try go_wp2
             replace HO_5 := Aside0.mk (Kd.S_drew HO_5.out)
             replace HO_173001 := Aside0.mk (Kd.R_drew HO_173001.out)
             replace BK172 := Aside0.mk (blk_drew BK172.out)
             replace HB := Aside0.mk (below_drew1 HB.out)
             refine start_ (n := 13) (S := fun w' => w'.cell? ⟨gb172, 0, none⟩ = some (.int .i64 x173000_14) ∧ w'.cell? ⟨gb172, 1, none⟩ = some (u173001)) (ds := [12]) (bm 13 0) (by kernel_rfl) rfl (bm0 _) ⟨bc0 BK172, bc1 BK172⟩ (fun hHeld => ?_); refine with_tabW spec_MakeMessage.tab13 spec_MakeMessage.bits13 (fun HT_ HW_ => ?_)
             generalize wr.drew = w33 at HO_5 HO_173001 BK172 HB hHeld ⊢
             refine pU 0 (some 57) (bm 13 1) HT_ rfl rfl ?_
             refine pU 2 (some 59) (bm 13 5) HT_ rfl rfl ?_
             refine pU 3 (some 60) (bm 13 13) HT_ rfl rfl ?_
             refine pU 4 (some 61) (bm 13 29) HT_ rfl rfl ?_
             refine pU 5 (some 62) (bm 13 61) HT_ rfl rfl ?_
             refine pU 6 (some 63) (bm 13 125) HT_ rfl rfl ?_
             refine pU 7 (some 64) (bm 13 253) HT_ rfl rfl ?_
             refine tU 1 (some 58) (bm 13 255) HT_ HW_ rfl rfl hHeld ?_
             refine one_ (i := 8) (N := some 65) (bm 13 511) rfl rfl (one_of HT_.out (by kernel_rfl)) (by decide) (fun K hK => ?_)
             refine goes_ Try.func46 (by kernel_rfl) rfl #[.int .i64 a1, .int .i64 (wrap64 ((wrap64 ((wrap64 (16 * x6_1)) + x9_4)) + 1)), .int .i64 100] (by rfl) rfl rfl zG ?_
             with_reducible refine (spec_PickOf.calls k4 a1 (wrap64 ((wrap64 ((wrap64 (16 * x6_1)) + x9_4)) + 1)) 100 t181 _ A31.out).mono ?_
             rintro e w34 ⟨rfl, hb⟩
             refine ⟨_, rfl, ?_⟩
             replace HO_5 := Aside0.mk (Kd.S_below (zS HO_5) hb)
             replace HO_173001 := Aside0.mk (Kd.R_below (zR HO_173001) hb)
             replace BK172 := kB BK172 hb
             replace HB := bS HB hb
             (try clear hb)
             (try clear hb2)
             (try clear hk)
             (try clear hi)
             refine hK.out _ _ ⟨bc0 BK172, bc1 BK172⟩ (fun hHeld => ?_)
             clear hK K
             refine norm_ (a' := ?_) ?_ ?_
             rotate_left
             ·show Act.put _ (some 65) _ = _
              simp only [Act.put, List.setIfInBounds_toArray, List.set_cons_zero, List.set_cons_succ, i64_w, i32_w]
              rfl
             refine one_ (i := 9) (N := some 66) (bm 13 1023) rfl rfl (one_of HT_.out (by kernel_rfl)) (by decide) (fun K hK => ?_)
             refine value_ (w1 := ?_) (v := ?_) (by rfl) rfl ?_ ?_
             rotate_left 2
             ·go_simp
              constructor
              ·rfl
              ·rfl
             refine hK.out _ _ ⟨(blk_cell (blk_alloc BK172.out _) 0).trans rfl, (blk_cell (blk_alloc BK172.out _) 1).trans rfl⟩ (fun hHeld => ?_)
             clear hK K
             refine norm_ (a' := ?_) ?_ ?_
             rotate_left
             ·show Act.put _ (some 66) _ = _
              simp only [Act.put, List.setIfInBounds_toArray, List.set_cons_zero, List.set_cons_succ, i64_w, i32_w]
              rfl
             refine one_ (i := 10) (N := some 67) (bm 13 2047) rfl rfl (one_of HT_.out (by kernel_rfl)) (by decide) (fun K hK => ?_)
             refine Kd.R_append_step (Kd.int .i64) (w0 := w) w.heap.size (by rfl) (.tmp 58) (.tmp 66) 37 3 (.int .i64 0) 8 rfl Try.underlying37 info3 rfl (by decide) (by omega) u173001 x173001_4 t181 [.int .i64 t181] (fun _ => True) (fun _ => False) rfl rfl ?aP (fun _ hk => hk.elim) ?aF ?aO ?aB ?aS ?aL ?_
             (case aP => exact rfl)
             (case aB => exact (zB HB))
             (case aF => exact (fun _ _ => trivial))
             (case aO => exact (zR HO_173001))
             (case aS => exact (below_size (zB HB)))
             (case aL => have := LMc32.out; omega)
             intro v183 w35 ho hb hg hat
             rw [← Ny182.out] at ho
             replace HO_5 := Aside0.mk (Kd.S_after (ok := (fun k_ => k_ ≠ gb172)) (by (with_reducible repeat (first | apply Kd.S_alloc | apply Kd.S_drewN | apply Kd.S_drew)); exact Kd.S_mono HO_5.out (fun _ hk => ⟨hk.2, hk.1⟩)) hg hat)
             replace BK172 := Aside0.mk (blk_grown (g := gb172) (o := .cells #[.int .i64 x173000_14, u173001] 58 (0, 0)) (zK BK172) hg (Kd.R_ne HO_173001.out BK172.out (by decide)))
             replace HB := Aside0.mk (hb)
             have HO184 := Aside0.mk (ho)
             clear HO_173001
             clear ho hb hg hat
             obtain ⟨Ao36, co36, eo36⟩ := Kd.R_slice HO184.out
             (first | subst eo36 | (injection eo36 with f1_ f2_ f3_; have f4_ := f1_.symm; have f5_ := f3_.symm; clear f1_ f2_ f3_; subst f4_; subst f5_))
             refine hK.out _ _ ⟨bc0 BK172, bc1 BK172⟩ (fun hHeld => ?_)
             clear hK K
             refine norm_ (a' := ?_) ?_ ?_
             rotate_left
             ·show Act.put _ (some 67) _ = _
              simp only [Act.put, List.setIfInBounds_toArray, List.set_cons_zero, List.set_cons_succ, i64_w, i32_w]
              rfl
             refine pU 11 (some 68) (bm 13 4095) HT_ rfl rfl ?_
             refine last_ (i := 12) (N := none) (bm 13 8191) rfl rfl (one_of HT_.out (by kernel_rfl)) (by decide) (fun K hK => ?_)
             have hs37 : w35.cell? ⟨gb172, 1, none⟩ = some (u173001) := bc1 BK172
             have hfs37 := bf BK172 1
             refine skip_ (w1 := ?_) (by rfl) rfl ?_ ?_
             rotate_left
             ·go_simp
              rfl
             refine hK.out _ _ ?_
             clear hK K
             refine done_ (done_of HT_.out (by kernel_rfl)) ?_
             try clear hHeld
             try go_wp2
             go_roundg k4
             case measure => have := HK1.out; have := HJ4.out; have := HJ14.out; have := HK4.out; omega
             case rel => exact ⟨(wrap64 (x9_4 + 1)), (y182), (.slice Ao36 y182.length co36), zF, H', ⟨by have := HK1.out; have := HJ4.out; have := HJ14.out; have := HK4.out; omega⟩, ⟨by (with_reducible repeat (first | apply Kd.S_alloc | apply Kd.S_drewN | apply Kd.S_drew)); exact Kd.S_mono (Kd.S_far (p := ⟨gb172, 1, none⟩) (Kd.S_mono HO_5.out (fun k_ hk => (⟨hk, hk.1⟩ : _ ∧ k_ ≠ gb172))) (fun _ hk => hk.2) (.slice Ao36 y182.length co36)) (fun _ hk => ⟨hk.1.2, hk.1.1⟩)⟩, ⟨by (with_reducible repeat (first | apply Kd.R_alloc | apply Kd.R_drewN | apply Kd.R_drew)); exact Kd.R_mono (Kd.R_far (p := ⟨gb172, 1, none⟩) (Kd.R_types HO184.out BK172.out (by decide)) (fun _ hk => hk.2) (.slice Ao36 y182.length co36)) (fun _ hk => trivial)⟩, ⟨by (with_reducible repeat (first | refine blk_drewN ?_ _ | refine blk_drew ?_ | refine blk_alloc ?_ _)); refine blk_put (cs := #[.int .i64 x173000_14, u173001]) ?_ 1 _ rfl; (with_reducible repeat (first | refine blk_drewN ?_ _ | refine blk_drew ?_ | refine blk_alloc ?_ _)); exact BK172.out⟩, ⟨zB HB⟩⟩
           ·rw [if_neg c23] at H
            have c23b0 : decide (x9_4 < t175) = false := decide_eq_false c23
            clear c23
            obtain ⟨c38, H⟩ := ifS H
            have LMc38 := Aside0.mk c38
            clear c38
            obtain ⟨y185, hy185⟩ : ∃ y_ : List (S58), y_ = (x5_1 ++ [(⟨x173000_14, x173001_4⟩ : S58)]) := ⟨_, rfl⟩
            replace H : (spec_MakeMessage.l0 k4 l0 a1 y185 (wrap64 (x6_1 + 1))) = some r := by first | (rw [hy185]; with_reducible exact H) | (have H2_ := (Option.bind_some _ _).symm.trans H; rw [hy185]; with_reducible exact H2_) | (have H2_ := (Option.bind_some _ _).symm.trans H; with_reducible exact H2_) | with_reducible exact H | (rw [hy185]; exact H) | exact H
            have Ny185 := Aside0.mk hy185
            clear hy185
            have H' := Aside0.mk H
            clear H
            have hcz39_0 := bc0 BK172
            have hcz39_1 := bc1 BK172
            have hfz39_0 := bf BK172 0
            have hfz39_1 := bf BK172 1
            obtain ⟨Ao41, co41, eo41⟩ := Kd.R_slice HO_173001.out
            subst eo41
            go_wp2_with (first | ((with_reducible refine gate_builtin (b := .append) (xs := #[.tmp 69, .tmp 71]) rfl ?_); at_builtin; refine Kd.S_append k58 (w0 := w) w.heap.size rfl (.tmp 69) (.tmp 71) 39 58 (.agg #[(.int .i64 0), (.slice none 0 0)]) 32 rfl Try.underlying39 info58 rfl (by decide) (by omega) (.slice Ao18 x5_1.length co18) x5_1 (⟨x173000_14, x173001_4⟩ : S58) [.int .i64 x173000_14, .slice Ao41 x173001_4.length co41] (fun k_ => k_ ≠ gb172) (fun k_ => some k_ = (.slice Ao41 x173001_4.length co41 : Value).ownBlock) rfl rfl ?aP (fun k_ hk_ => ((Kd.R_mono (ok' := fun k_ => ((fun k_ => k_ ≠ gb172)) k_ ∧ some k_ ≠ (.slice Ao18 x5_1.length co18 : Value).ownBlock) (Kd.R_types (Kd.R_apart' (HO_173001.out) (Kd.S_typed HO_5.out) (by decide)) BK172.out (by decide)) (fun k_ hk => ⟨hk.2, hk.1.2⟩))).1 k_ hk_.symm) ?aF ?aO ?aB ?aS ?aL ?_; (case aP => exact k58_mkM _ _ _ (⟨x173000_14, x173001_4⟩ : S58) (Kd.R_mono (Kd.R_tight rfl (Kd.R_mono (ok' := fun k_ => ((fun k_ => k_ ≠ gb172)) k_ ∧ some k_ ≠ (.slice Ao18 x5_1.length co18 : Value).ownBlock) (Kd.R_types (Kd.R_apart' (HO_173001.out) (Kd.S_typed HO_5.out) (by decide)) BK172.out (by decide)) (fun k_ hk => ⟨hk.2, hk.1.2⟩))) (fun _ h_ => h_))); (case aB => exact (zB HB)); (case aF => exact (fun k_ hk => Kd.freshB (g := gb172) (o := .cells #[.int .i64 x173000_14, .slice Ao41 x173001_4.length co41] 58 (0, 0)) (zK BK172) k_ hk)); (case aO => exact (by (with_reducible repeat (first | apply Kd.S_alloc | apply Kd.S_drewN | apply Kd.S_drew)); exact Kd.S_mono HO_5.out (fun k_ hk => ⟨hk.2, fun e_ => hk.1 e_⟩))); (case aS => exact (below_size (zB HB))); (case aL => have := LMc38.out; omega); intro v186 w40 ho hb hg hat; rw [← Ny185.out] at ho; replace BK172 := Aside0.mk (blk_grown (g := gb172) (o := .cells #[.int .i64 x173000_14, .slice Ao41 x173001_4.length co41] 58 (0, 0)) (zK BK172) hg (Kd.S_away HO_5.out (fun _ hk => hk.2))); replace HB := Aside0.mk (hb); have HO187 := Aside0.mk (ho); clear HO_5 HO_173001; clear ho hb hg hat))
            go_roundg k4
            case measure => have := HK1.out; have := HJ4.out; have := HJ14.out; have := HK4.out; omega
            case rel => exact ⟨(y185), (wrap64 (x6_1 + 1)), zF, H', ⟨by have := HK1.out; have := HJ4.out; have := HJ14.out; have := HK4.out; omega⟩, ⟨by (with_reducible repeat (first | apply Kd.S_alloc | apply Kd.S_drewN | apply Kd.S_drew)); exact Kd.S_mono HO187.out (fun _ hk => trivial)⟩, ⟨zB HB⟩⟩
      ·replace c11 := Bool.eq_false_iff.mpr c11
       subst c11
       have H1 : (if x5_1.length < 4398046511104 then (spec_MakeMessage.l0 kj4 l0 a1 (x5_1 ++ [(⟨0, ([] : List Int)⟩ : S58)]) (wrap64 (x6_1 + 1))) else (none)) = some r := by rw [if_neg (show ¬ (false = true) by decide)] at H; exact H
       clear H
       have H := H1
       clear H1
       obtain ⟨c42, H⟩ := ifS H
       have LMc42 := Aside0.mk c42
       clear c42
       obtain ⟨y188, hy188⟩ : ∃ y_ : List (S58), y_ = (x5_1 ++ [(⟨0, ([] : List Int)⟩ : S58)]) := ⟨_, rfl⟩
       replace H : (spec_MakeMessage.l0 kj4 l0 a1 y188 (wrap64 (x6_1 + 1))) = some r := by first | (rw [hy188]; with_reducible exact H) | (have H2_ := (Option.bind_some _ _).symm.trans H; rw [hy188]; with_reducible exact H2_) | (have H2_ := (Option.bind_some _ _).symm.trans H; with_reducible exact H2_) | with_reducible exact H | (rw [hy188]; exact H) | exact H
       have Ny188 := Aside0.mk hy188
       clear hy188
       have H' := Aside0.mk H
       clear H
       go_wp2_with (first | ((with_reducible refine gate_dst (N := 7) rfl ?_); refine box_event ?hg (N := 7) ?hd (cs := #[.int .i64 0, .slice none 0 0]) (t := 58) ?hr ?_; (case hd => rfl); (case hg => rfl); (case hr => first | (go_simp; done) | (go_simp; rfl)); intro gb172 hg w43 hbox hb; replace HO_5 := Aside0.mk (Kd.S_below (Kd.S_elderB (zS HO_5) gb172 (Nat.le_of_eq hg.symm)) hb); have BK172 := Aside0.mk (hbox); have GW172 := gS HB hg; have GE172 := gS HB hg; replace HB := bS HB hb; clear hb hbox hg; have hcz44_0 := bc0 BK172; have hcz44_1 := bc1 BK172; have hfz44_0 := bf BK172 0; have hfz44_1 := bf BK172 1; obtain ⟨Ao45, co45, eo45⟩ := Kd.S_slice HO_5.out; subst eo45) | ((with_reducible refine gate_callee (f := 43) rfl ?_); refine goesL_ (some 25) rfl rfl Try.func43 (by kernel_rfl) rfl #[.slice A0 l0.length c0, .slice Ao45 x5_1.length co45, .int .i64 x6_1] rfl zG ?_; (with_reducible refine (spec_IsThere.calls _ _ l0 _ _ x5_1 x6_1 false _ ?side1 ?side2 ?side3 ?side4 A10.out).mono ?_); (case side1 => exact Kd.C_below HR0.out (zB HB)); (case side2 => exact HC0.out); (case side3 => refine (Kd.S_reads' (e := 58) (base := w.heap.size) (ok := fun k_ => (True ∧ k_ ≠ gb172)) (n := x5_1.length) (c := co45) ?_).2.2; exact (by (with_reducible repeat (first | apply Kd.S_alloc | apply Kd.S_drewN | apply Kd.S_drew)); exact (Kd.S_mono (Kd.S_far (p := ⟨gb172, 1, none⟩) (Kd.S_far (p := ⟨gb172, 0, none⟩) (Kd.S_mono HO_5.out (fun k_ hk => (⟨hk, hk.2⟩ : _ ∧ k_ ≠ gb172))) (fun _ hk => hk.2) (.int .i64 0)) (fun _ hk => hk.2) (.slice none 0 0)) (fun _ h_ => h_.1)))); (case side4 => exact (Kd.S_reads' HO_5.out).2.1); rintro e w46 ⟨rfl, hb⟩; refine ⟨_, rfl, ?_⟩; replace HO_5 := Aside0.mk (Kd.S_below (by (with_reducible repeat (first | apply Kd.S_alloc | apply Kd.S_drewN | apply Kd.S_drew)); exact (Kd.S_mono (Kd.S_far (p := ⟨gb172, 1, none⟩) (Kd.S_far (p := ⟨gb172, 0, none⟩) (Kd.S_mono HO_5.out (fun k_ hk => (⟨hk, hk.2⟩ : _ ∧ k_ ≠ gb172))) (fun _ hk => hk.2) (.int .i64 0)) (fun _ hk => hk.2) (.slice none 0 0)) (fun _ h_ => h_.1))) hb); replace BK172 := Aside0.mk (blk_below (g := gb172) (o := .cells #[.int .i64 0, .slice none 0 0] 58 (0, 0)) (by (with_reducible repeat (first | refine blk_drewN ?_ _ | refine blk_drew ?_ | refine blk_alloc ?_ _)); refine blk_put (cs := #[.int .i64 0, .slice none 0 0]) ?_ 1 _ rfl; (with_reducible repeat (first | refine blk_drewN ?_ _ | refine blk_drew ?_ | refine blk_alloc ?_ _)); refine blk_put (cs := #[.int .i64 0, .slice none 0 0]) ?_ 0 _ rfl; (with_reducible repeat (first | refine blk_drewN ?_ _ | refine blk_drew ?_ | refine blk_alloc ?_ _)); exact BK172.out) hb); replace HB := bS HB hb; (try clear hb); have hcz47_0 := bc0 BK172; have hcz47_1 := bc1 BK172; have hfz47_0 := bf BK172 0; have hfz47_1 := bf BK172 1) | ((with_reducible refine gate_builtin (b := .append) (xs := #[.tmp 69, .tmp 71]) rfl ?_); at_builtin; refine Kd.S_append k58 (w0 := w) w.heap.size rfl (.tmp 69) (.tmp 71) 39 58 (.agg #[(.int .i64 0), (.slice none 0 0)]) 32 rfl Try.underlying39 info58 rfl (by decide) (by omega) (.slice Ao45 x5_1.length co45) x5_1 (⟨0, ([] : List Int)⟩ : S58) [.int .i64 0, .slice none 0 0] (fun k_ => k_ ≠ gb172) (fun _ => False) rfl rfl ?aP (fun k_ hk_ => hk_.elim) ?aF ?aO ?aB ?aS ?aL ?_; (case aP => exact k58_mkM _ _ _ (⟨0, ([] : List Int)⟩ : S58) (Kd.R_nil _ _ _ _ _)); (case aB => exact (zB HB)); (case aF => exact (fun k_ hk => Kd.freshB (g := gb172) (o := .cells #[.int .i64 0, .slice none 0 0] 58 (0, 0)) (zK BK172) k_ hk)); (case aO => exact (by (with_reducible repeat (first | apply Kd.S_alloc | apply Kd.S_drewN | apply Kd.S_drew)); exact Kd.S_mono HO_5.out (fun k_ hk => ⟨hk.2, fun e_ => e_⟩))); (case aS => exact (below_size (zB HB))); (case aL => have := LMc42.out; omega); intro v189 w48 ho hb hg hat; rw [← Ny188.out] at ho; replace BK172 := Aside0.mk (blk_grown (g := gb172) (o := .cells #[.int .i64 0, .slice none 0 0] 58 (0, 0)) (zK BK172) hg (Kd.S_away HO_5.out (fun _ hk => hk.2))); replace HB := Aside0.mk (hb); have HO190 := Aside0.mk (ho); clear HO_5; clear ho hb hg hat))
       go_roundg kj4
       case measure => have := HK1.out; have := HJ4.out; omega
       case rel => exact ⟨(y188), (wrap64 (x6_1 + 1)), zF, H', ⟨by have := HK1.out; have := HJ4.out; omega⟩, ⟨by (with_reducible repeat (first | apply Kd.S_alloc | apply Kd.S_drewN | apply Kd.S_drew)); exact Kd.S_mono HO190.out (fun _ hk => trivial)⟩, ⟨zB HB⟩⟩
     ·replace c9 := Bool.eq_false_iff.mpr c9
      subst c9
      have H1 : (some x5_1) = some r := by rw [if_neg (show ¬ (false = true) by decide)] at H; exact H
      clear H
      have H := H1
      clear H1
      obtain rfl := Option.some.inj H
      go_wp2
      go_ret
      exact ⟨_, zE, by (with_reducible repeat (first | apply Kd.S_alloc | apply Kd.S_drewN | apply Kd.S_drew)); exact HO_5.out, zB HB⟩

end Go.Proofs.Yticpmgofegaaeaa.PFnExactSkipsTail
