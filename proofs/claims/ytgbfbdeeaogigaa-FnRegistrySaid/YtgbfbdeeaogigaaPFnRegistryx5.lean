-- WRITTEN by pp.py, this session's own wrapper around the print; not trusted: Lean checks it
import Derived.Test.YtgbfbdeeaogigaaPFnRegistryx0
import Derived.Test.YtgbfbdeeaogigaaPFnRegistryx2
import Derived.Test.YtgbfbdeeaogigaaPFnRegistryx4
namespace Go.Proofs.Ytgbfbdeeaogigaa.PFnRegistry
open Go.RowKit Go.Proofs.Ytgbfbdeeaogigaa.Hw Go.Proofs.YtgbfbdeeaogigaaW.PrintWords Go.Proofs.YtgbfbdeeaogigaaW.PrintLast Go.Proofs.YtgbfbdeeaogigaaW.PrintMore
attribute [local go_sem] max2_int min2_int max_two min_two max_three min_three max_four min_four   -- for this text's walks alone
set_option linter.unusedVariables false
set_option linter.unusedSimpArgs false
set_option linter.unusedSectionVars false

/-! ### spec_l10Draw: function 40 -/
mutual
def spec_l10Draw.l0 : Nat → List (S43) → Int → List Int → Int → Int → Option ((List (S43)) × Int × Int)
 | 0, _, _, _, _, _ => none
 | k + 1, x3, x4, x1000, x1001, x1002 => if x4 > 0 then ((spec_l1Below.f x1000 x1001 x1002 4).bind fun bt210 => ((spec_AssignTag.f k x3 bt210.1).bind fun bt213 => (spec_l10Draw.l0 k bt213.1 (wrap64 (x4 - 1)) x1000 bt210.2.1 bt210.2.2))) else (if (x3.length : Int) > 0 then ((spec_l1Once.f x1000 x1001 x1002 2).bind fun bt218 => (spec_l10Draw.j1 k x3 bt218.1 x1000 bt218.2.1 bt218.2.2)) else (spec_l10Draw.j1 k x3 false x1000 x1001 x1002))
def spec_l10Draw.j1 : Nat → List (S43) → Bool → List Int → Int → Int → Option ((List (S43)) × Int × Int)
 | 0, _, _, _, _, _ => none
 | k + 1, x3, x26, x1000, x1001, x1002 => if x26 = true then ((spec_l1Below.f x1000 x1001 x1002 (x3.length : Int)).bind fun bt221 => (if 0 ≤ bt221.1 then (if bt221.1 < (x3.length : Int) then ((some (x3.set (bt221.1 : Int).toNat (⟨(rd_T43 x3 bt221.1).f0, (rd_T43 x3 bt221.1).f1, true⟩ : S43) : List (S43))).bind fun y224 => (if (x3.length : Int) > 2 then ((spec_l1Once.f x1000 bt221.2.1 bt221.2.2 3).bind fun bt225 => (if bt225.1 = true then ((some (([] : List (S43)) : List (S43))).bind fun y228 => (if 1 ≤ (x3.length : Int) then ((some (y224.take 1 : List (S43))).bind fun y231 => (if y228.length + y231.length < 5864062014805 then ((some (y228 ++ y231 : List (S43))).bind fun y235 => (if 2 ≤ (x3.length : Int) then ((some (y224.drop 2 : List (S43))).bind fun y238 => (if y235.length + y238.length < 5864062014805 then (some ((y235 ++ y238), bt225.2.1, bt225.2.2)) else (none))) else (none))) else (none))) else (none))) else (some (y224, bt225.2.1, bt225.2.2)))) else (some (y224, bt221.2.1, bt221.2.2)))) else (none)) else (none))) else (if (x3.length : Int) > 2 then ((spec_l1Once.f x1000 x1001 x1002 3).bind fun bt245 => (if bt245.1 = true then ((some (([] : List (S43)) : List (S43))).bind fun y248 => (if 1 ≤ (x3.length : Int) then ((some (x3.take 1 : List (S43))).bind fun y251 => (if y248.length + y251.length < 5864062014805 then ((some (y248 ++ y251 : List (S43))).bind fun y255 => (if 2 ≤ (x3.length : Int) then ((some (x3.drop 2 : List (S43))).bind fun y258 => (if y255.length + y258.length < 5864062014805 then (some ((y255 ++ y258), bt245.2.1, bt245.2.2)) else (none))) else (none))) else (none))) else (none))) else (some (x3, bt245.2.1, bt245.2.2)))) else (some (x3, x1001, x1002)))
end
def spec_l10Draw.f (k : Nat) (s0_0 : List Int) (s0_1 : Int) (s0_2 : Int) : Option ((List (S43)) × Int × Int) := (spec_l1Below.f s0_0 s0_1 s0_2 9).bind fun bt207 => (spec_l10Draw.l0 k (([] : List (S43))) bt207.1 s0_0 bt207.2.1 bt207.2.2)
theorem spec_l10Draw.mono_l : ∀ k, (∀ y0 y1 y2 y3 y4, LeO (spec_l10Draw.l0 k y0 y1 y2 y3 y4) (spec_l10Draw.l0 (k + 1) y0 y1 y2 y3 y4)) ∧ (∀ y0 y1 y2 y3 y4, LeO (spec_l10Draw.j1 k y0 y1 y2 y3 y4) (spec_l10Draw.j1 (k + 1) y0 y1 y2 y3 y4))
 | 0 => ⟨fun _ _ _ _ _ r h => by simp [spec_l10Draw.l0] at h, fun _ _ _ _ _ r h => by simp [spec_l10Draw.j1] at h⟩
 | k + 1 => by
  obtain ⟨ih0, ih1⟩ := spec_l10Draw.mono_l k
  refine ⟨?_, ?_⟩
  ·intro y0 y1 y2 y3 y4
   unfold spec_l10Draw.l0
   repeat' first
   | (with_reducible exact ih0 _ _ _ _ _)
   | (with_reducible exact ih1 _ _ _ _ _)
   | (with_reducible exact spec_AssignTag.mono _ _ _)
   | (with_reducible exact LeO.refl _)
   | (with_reducible exact LeO.none _)
   | (with_reducible refine LeO.ite ?_ ?_)
   | (with_reducible refine LeO.bind ?_ (fun _ => ?_))
   | exact ih0 _ _ _ _ _
   | exact ih1 _ _ _ _ _
   | exact spec_AssignTag.mono _ _ _
   | exact LeO.none _
   | refine LeO.ite ?_ ?_
   | refine LeO.bind ?_ (fun _ => ?_)
  ·intro y0 y1 y2 y3 y4
   unfold spec_l10Draw.j1
   repeat' first
   | (with_reducible exact ih0 _ _ _ _ _)
   | (with_reducible exact ih1 _ _ _ _ _)
   | (with_reducible exact spec_AssignTag.mono _ _ _)
   | (with_reducible exact LeO.refl _)
   | (with_reducible exact LeO.none _)
   | (with_reducible refine LeO.ite ?_ ?_)
   | (with_reducible refine LeO.bind ?_ (fun _ => ?_))
   | exact ih0 _ _ _ _ _
   | exact ih1 _ _ _ _ _
   | exact spec_AssignTag.mono _ _ _
   | exact LeO.none _
   | refine LeO.ite ?_ ?_
   | refine LeO.bind ?_ (fun _ => ?_)
theorem spec_l10Draw.mono : ∀ a0 a1 a2 k, LeO (spec_l10Draw.f k a0 a1 a2) (spec_l10Draw.f (k + 1) a0 a1 a2) := by
 intro a0 a1 a2 k
 obtain ⟨ih0, ih1⟩ := spec_l10Draw.mono_l k
 unfold spec_l10Draw.f
 repeat' first
   | (with_reducible exact ih0 _ _ _ _ _)
   | (with_reducible exact ih1 _ _ _ _ _)
   | (with_reducible exact spec_AssignTag.mono _ _ _)
   | (with_reducible exact LeO.refl _)
   | (with_reducible exact LeO.none _)
   | (with_reducible refine LeO.ite ?_ ?_)
   | (with_reducible refine LeO.bind ?_ (fun _ => ?_))
   | exact ih0 _ _ _ _ _
   | exact ih1 _ _ _ _ _
   | exact spec_AssignTag.mono _ _ _
   | exact LeO.none _
   | refine LeO.ite ?_ ?_
   | refine LeO.bind ?_ (fun _ => ?_)
def spec_l10Draw.T9 : Bool × List (List Nat × List Nat) := (true, [([], []), ([], []), ([1], [1]), ([0, 2], [0, 2]), ([], []), ([4], [4]), ([3, 5, 3], [3, 5]), ([6, 6, 0, 1, 2, 3, 4, 5, 6], [1, 4, 6])])
def spec_l10Draw.B9 : List Nat := [0, 0, 2, 7, 0, 16, 63, 127]
theorem spec_l10Draw.tab9 : rtab .any (opsOf Try.f40 9) = spec_l10Draw.T9 := by kernel_rfl
theorem spec_l10Draw.bits9 : waitsOk spec_l10Draw.T9.2 spec_l10Draw.B9 = true := by kernel_rfl
theorem spec_l10Draw.zI63 {P Q : Prop} (h : Aside0 P) (hw : P → Q := by intro h_; repeat (first | (with_reducible first | exact h_ | apply IsS63.alloc | apply IsS63.drew | apply IsS63.drewN | apply IsS63.set_1 | apply IsS63.set_2) | exact h_)) : Q := hw h.out
set_option maxHeartbeats 8000000 in
set_option maxRecDepth 100000 in
theorem spec_l10Draw.calls (k : Nat) (g : Nat) (s0_0 : List Int) (s0_1 : Int) (s0_2 : Int) (r1 : List (S43)) (r2 : Int) (r3 : Int) (w0 w : World) (hI : IsS63 w0 w g s0_0 s0_1 s0_2) (hB : Below w0.heap.size w0 w) (h : spec_l10Draw.f k s0_0 s0_1 s0_2 = some (r1, r2, r3)) :
  Calls Try.prog 40 #[.pointer (some ⟨g, 0, none⟩)] w fun e w' => ∃ v0_ : Value, e = .returned (v0_) ∧ Kd.R k43 43 w' w.heap.size (fun _ => True) v0_ r1 ∧ IsS63 w0 w' g s0_0 r2 r3 ∧ Below w0.heap.size w0 w' ∧ KeepBut w w' g none := by
 have HI0 := Aside0.mk hI
 have HK := Aside0.mk (KeepBut.refl w g none)
 have HL := Aside0.mk hB.size
 clear hI
 have HW0 := Aside0.mk hB.size
 have HB := Aside0.mk hB
 clear hB
 have H : ((spec_l1Below.f s0_0 s0_1 s0_2 9).bind fun bt207 => (spec_l10Draw.l0 k (([] : List (S43))) bt207.1 s0_0 bt207.2.1 bt207.2.2)) = some (r1, r2, r3) := h
 clear h
 obtain ⟨y204, hy204⟩ : ∃ y_ : List (S43), y_ = (([] : List (S43))) := ⟨_, rfl⟩
 replace H : ((spec_l1Below.f s0_0 s0_1 s0_2 9).bind fun bt207 => (spec_l10Draw.l0 k y204 bt207.1 s0_0 bt207.2.1 bt207.2.2)) = some (r1, r2, r3) := by first | (rw [hy204]; with_reducible exact H) | (have H2_ := (Option.bind_some _ _).symm.trans H; rw [hy204]; with_reducible exact H2_) | (have H2_ := (Option.bind_some _ _).symm.trans H; with_reducible exact H2_) | with_reducible exact H | (rw [hy204]; exact H) | exact H
 have Ny204 := Aside0.mk hy204
 clear hy204
 replace H := Option.bind_eq_some_iff.mp H
 obtain ⟨⟨t207, t208, t209⟩, A20, H⟩ := H
 replace H : (spec_l10Draw.l0 k y204 t207 s0_0 t208 t209) = some (r1, r2, r3) := H
 have A2 := Aside0.mk A20
 clear A20
 have H' := Aside0.mk H
 clear H
 go_enter Try.func40, Try.ntmps40
 go_wp2_with (first | ((with_reducible refine gate_dst (N := 5) rfl ?_); refine Kd.R_lit k43 _ 43 ?hg (N := 5) ?hd (xs := ([] : List (S43))) (inner := []) (ok := fun _ => True) (okp := fun _ => True) ?hr ?hp (fun _ hk => hk) trivial (Below.refl _ _) (Nat.le_refl _) (by simp) ?_; (case hd => rfl); (case hg => rfl); (case hr => first | (go_simp; done) | (go_simp; rfl)); (case hp => exact (Reps.none _ _)); intro v205 w3 ho4 hb hg_ hnew_; clear hg_ hnew_; (first | rw [← Ny204.out] at ho4 | (simp only [Int.reduceToNat] at ho4; rw [← Ny204.out] at ho4)); have HO206 := Aside0.mk (Kd.R_lower ho4 (keep_size (w := w) (g := g) (row := none) (zH HK))); replace HK := Aside0.mk (KeepBut.trans (zH HK) (KeepBut.of_below hb g none) (.inl rfl)); replace HB := Aside0.mk (below_step (by repeat (first | (with_reducible first | exact HB.out | apply below_alloc | apply pw_below_drewN | apply below_drew1 | refine below_set ?_ (IsS63.ge HI0.out)) | exact HB.out)) hb); replace HI0 := Aside0.mk (IsS63.below (spec_l10Draw.zI63 HI0) hb); clear hb ho4) | ((with_reducible refine gate_callee (f := 35) rfl ?_); refine goesL_ (some 7) rfl rfl Try.func35 (by kernel_rfl) rfl #[.pointer (some ⟨g, 0, none⟩), .int .i64 9] rfl zG ?_; (with_reducible refine (spec_l1Below.calls g s0_0 s0_1 s0_2 9 t207 t208 t209 w0 _ ?side1 ?side2 A2.out).mono ?_); (case side1 => exact spec_l10Draw.zI63 HI0); (case side2 => repeat (first | (with_reducible first | exact HB.out | apply below_alloc | apply pw_below_drewN | apply below_drew1 | refine below_set ?_ (IsS63.ge HI0.out)) | exact HB.out)); rintro e w5 ⟨rfl, hi, hb, hk⟩; refine ⟨_, rfl, ?_⟩; replace HO206 := Aside0.mk (Kd.R_mono (Kd.R_keep (IsS63.apart (show IsS63 w0 _ g s0_0 s0_1 s0_2 from spec_l10Draw.zI63 HI0) (zR HO206) (by decide)) hk (fun _ h => h.2)) (fun _ h => h.1)); replace HK := Aside0.mk (KeepBut.trans (zH HK) hk (.inl rfl)); replace HB := Aside0.mk (hb); replace HI0 := Aside0.mk (hi); (try clear hb)))
 go_loopg [3, 4] k (fun kq v3 v4 w' => ∃ (x3_1 : List (S43)) (x4_1 : Int) (x1001_1 : Int) (x1002_1 : Int), v4 = .int .i64 x4_1 ∧ Aside0 (spec_l10Draw.l0 kq x3_1 x4_1 s0_0 x1001_1 x1002_1 = some (r1, r2, r3)) ∧ Aside0 (kq ≤ k) ∧ Aside0 (Kd.R k43 43 w' w.heap.size (fun _ => True) v3 x3_1) ∧ Aside0 (IsS63 w0 w' g s0_0 x1001_1 x1002_1) ∧ Aside0 (KeepBut w w' g none) ∧ Aside0 (Below w0.heap.size w0 w'))
 case atStart => exact ⟨(y204), (t207), (t208), (t209), zF, H', ⟨Nat.le_refl _⟩, ⟨zR HO206⟩, ⟨spec_l10Draw.zI63 HI0⟩, ⟨zH HK⟩, ⟨by repeat (first | (with_reducible first | exact HB.out | apply below_alloc | apply pw_below_drewN | apply below_drew1 | refine below_set ?_ (IsS63.ge HI0.out)) | exact HB.out)⟩⟩
 case round =>
  clear H'
  try clear p2
  try clear c3
  try clear c4
  obtain ⟨x3_1, x4_1, x1001_1, x1002_1, rfl, HA, HK1, HO_3, HI0, HK, HB⟩ := hrel
  cases gk with
  | zero => exact absurd HA.out (by simp [spec_l10Draw.l0])
  | succ k1 =>
   have H := HA.out
   clear HA
   simp only [spec_l10Draw.l0] at H
   by_cases c6 : x4_1 > 0
   ·rw [if_pos c6] at H
    have c6b0 : decide (0 < x4_1) = true := decide_eq_true c6
    clear c6
    replace H := Option.bind_eq_some_iff.mp H
    obtain ⟨⟨t210, t211, t212⟩, A70, H⟩ := H
    replace H : ((spec_AssignTag.f k1 x3_1 t210).bind fun bt213 => (spec_l10Draw.l0 k1 bt213.1 (wrap64 (x4_1 - 1)) s0_0 t211 t212)) = some (r1, r2, r3) := H
    have A7 := Aside0.mk A70
    clear A70
    replace H := Option.bind_eq_some_iff.mp H
    obtain ⟨⟨t213, t214, t215⟩, A80, H⟩ := H
    replace H : (spec_l10Draw.l0 k1 t213 (wrap64 (x4_1 - 1)) s0_0 t211 t212) = some (r1, r2, r3) := H
    have A8 := Aside0.mk A80
    clear A80
    have H' := Aside0.mk H
    clear H
    go_wp2_with (first | ((with_reducible refine gate_callee (f := 35) rfl ?_); refine goesL_ (some 15) rfl rfl Try.func35 (by kernel_rfl) rfl #[.pointer (some ⟨g, 0, none⟩), .int .i64 4] rfl zG ?_; (with_reducible refine (spec_l1Below.calls g s0_0 x1001_1 x1002_1 4 t210 t211 t212 w0 _ ?side1 ?side2 A7.out).mono ?_); (case side1 => exact spec_l10Draw.zI63 HI0); (case side2 => repeat (first | (with_reducible first | exact HB.out | apply below_alloc | apply pw_below_drewN | apply below_drew1 | refine below_set ?_ (IsS63.ge HI0.out)) | exact HB.out)); rintro e w9 ⟨rfl, hi, hb, hk⟩; refine ⟨_, rfl, ?_⟩; replace HO_3 := Aside0.mk (Kd.R_mono (Kd.R_keep (IsS63.apart (show IsS63 w0 _ g s0_0 x1001_1 x1002_1 from spec_l10Draw.zI63 HI0) (zR HO_3) (by decide)) hk (fun _ h => h.2)) (fun _ h => h.1)); replace HK := Aside0.mk (KeepBut.trans (zH HK) hk (.inl rfl)); replace HB := Aside0.mk (hb); replace HI0 := Aside0.mk (hi); (try clear hb); obtain ⟨Ao10, co10, eo10⟩ := Kd.R_slice HO_3.out; subst eo10) | ((with_reducible refine gate_callee (f := 6) rfl ?_); refine goesL_ (some 16) rfl rfl Try.func6 (by kernel_rfl) rfl #[.slice Ao10 x3_1.length co10, .int .i64 t210] rfl zG ?_; (with_reducible refine (spec_AssignTag.calls k1 _ _ x3_1 t210 t213 t214 t215 _ ?side1 ?side2 A8.out).mono ?_); (case side1 => repeat (first | exact (Kd.R_reads' HO_3.out).2.2 | (with_reducible refine Kd.C_alloc ?_ _) | (with_reducible refine Kd.C_drewN ?_ _) | (with_reducible refine Kd.C_drew ?_))); (case side2 => exact (Kd.R_reads' HO_3.out).2.1); rintro e w11 ⟨v216, rfl, ho0, hb⟩; refine ⟨_, rfl, ?_⟩; have HO217 := Aside0.mk (Kd.R_lower (Kd.R_new' ho0 (Kd.R_lt (zR HO_3))) (keep_size (w := w) (g := g) (row := none) (zH HK))); replace HO_3 := Aside0.mk (Kd.R_elder' (zR HO_3) (Kd.R_base ho0) hb); replace HK := Aside0.mk (KeepBut.trans (zH HK) (KeepBut.of_below hb g none) (.inl rfl)); replace HB := Aside0.mk (below_step (by repeat (first | (with_reducible first | exact HB.out | apply below_alloc | apply pw_below_drewN | apply below_drew1 | refine below_set ?_ (IsS63.ge HI0.out)) | exact HB.out)) hb); replace HI0 := Aside0.mk (IsS63.below (spec_l10Draw.zI63 HI0) hb); (try clear hb); (try clear ho0)))
    go_roundg k1
    case measure => have := HK1.out; omega
    case rel => exact ⟨(t213), (wrap64 (x4_1 - 1)), (t211), (t212), zF, H', ⟨by have := HK1.out; omega⟩, ⟨by (with_reducible repeat (first | apply Kd.R_alloc | apply Kd.R_drewN | apply Kd.R_drew)); exact Kd.R_mono HO217.out (fun _ hk => trivial)⟩, ⟨spec_l10Draw.zI63 HI0⟩, ⟨zH HK⟩, ⟨by repeat (first | (with_reducible first | exact HB.out | apply below_alloc | apply pw_below_drewN | apply below_drew1 | refine below_set ?_ (IsS63.ge HI0.out)) | exact HB.out)⟩⟩
   ·rw [if_neg c6] at H
    have c6b0 : decide (0 < x4_1) = false := decide_eq_false c6
    clear c6
    have HC12 := Aside0.mk H
    clear H
    go_upto_region 6 with (fail)
    go_cut [26] (fun v26 wc => ∃ (kq : Nat) (x26_11 : Bool) (x1001_11 : Int) (x1002_11 : Int), v26 = .bool x26_11 ∧ Aside0 (spec_l10Draw.j1 kq x3_1 x26_11 s0_0 x1001_11 x1002_11 = some (r1, r2, r3)) ∧ Aside0 (kq ≤ k1) ∧ Aside0 (Kd.R k43 43 wc w.heap.size (fun _ => True) u3 x3_1) ∧ Aside0 (IsS63 w0 wc g s0_0 x1001_11 x1002_11) ∧ Aside0 (KeepBut w wc g none) ∧ Aside0 (Below w0.heap.size w0 wc))
    case first =>
     have H := HC12.out
     clear HC12
     by_cases c13 : (x3_1.length : Int) > 0
     ·rw [if_pos c13] at H
      have c13b0 : decide (0 < (x3_1.length : Int)) = true := decide_eq_true c13
      have c13b1 : decide (0 < x3_1.length) = true := decide_eq_true (by omega)
      clear c13
      (first | rw [c13b0] | (simp only [i64_w, i32_w]; rw [c13b0]) | skip)
      replace H := Option.bind_eq_some_iff.mp H
      obtain ⟨⟨t218, t219, t220⟩, A140, H⟩ := H
      replace H : (spec_l10Draw.j1 k1 x3_1 t218 s0_0 t219 t220) = some (r1, r2, r3) := H
      have A14 := Aside0.mk A140
      clear A140
      have H' := Aside0.mk H
      clear H
      obtain ⟨Ao15, co15, eo15⟩ := Kd.R_slice HO_3.out
      subst eo15
      go_wp2_with (first | (go_at_call 53; (with_reducible refine (spec_l1Once.calls g s0_0 x1001_1 x1002_1 2 t218 t219 t220 w0 _ ?side1 ?side2 A14.out).mono ?_); (case side1 => exact spec_l10Draw.zI63 HI0); (case side2 => repeat (first | (with_reducible first | exact HB.out | apply below_alloc | apply pw_below_drewN | apply below_drew1 | refine below_set ?_ (IsS63.ge HI0.out)) | exact HB.out)); rintro e w16 ⟨rfl, hi, hb, hk⟩; replace HO_3 := Aside0.mk (Kd.R_mono (Kd.R_keep (IsS63.apart (show IsS63 w0 _ g s0_0 x1001_1 x1002_1 from spec_l10Draw.zI63 HI0) (zR HO_3) (by decide)) hk (fun _ h => h.2)) (fun _ h => h.1)); replace HK := Aside0.mk (KeepBut.trans (zH HK) hk (.inl rfl)); replace HB := Aside0.mk (hb); replace HI0 := Aside0.mk (hi); (try clear hb)))
      go_meet
      case rel => exact ⟨_, (t218), (t219), (t220), zF, H', ⟨by have := HK1.out; first | omega | exact Nat.le_refl _⟩, ⟨zR HO_3⟩, ⟨spec_l10Draw.zI63 HI0⟩, ⟨zH HK⟩, ⟨by repeat (first | (with_reducible first | exact HB.out | apply below_alloc | apply pw_below_drewN | apply below_drew1 | refine below_set ?_ (IsS63.ge HI0.out)) | exact HB.out)⟩⟩
     ·rw [if_neg c13] at H
      have c13b0 : decide (0 < (x3_1.length : Int)) = false := decide_eq_false c13
      have c13b1 : decide (0 < x3_1.length) = false := decide_eq_false (by omega)
      clear c13
      (first | rw [c13b0] | (simp only [i64_w, i32_w]; rw [c13b0]) | skip)
      have H' := Aside0.mk H
      clear H
      obtain ⟨Ao17, co17, eo17⟩ := Kd.R_slice HO_3.out
      subst eo17
      go_wp2
      go_meet
      case rel => exact ⟨_, (false), (x1001_1), (x1002_1), zF, H', ⟨by have := HK1.out; first | omega | exact Nat.le_refl _⟩, ⟨zR HO_3⟩, ⟨spec_l10Draw.zI63 HI0⟩, ⟨zH HK⟩, ⟨by repeat (first | (with_reducible first | exact HB.out | apply below_alloc | apply pw_below_drewN | apply below_drew1 | refine below_set ?_ (IsS63.ge HI0.out)) | exact HB.out)⟩⟩
    case rest =>
     clear HC12
     try clear c1
     try clear p2
     try clear c3
     try clear c4
     try clear c6
     try clear c6b0
     try clear p6
     try clear c13
     try clear c13b0
     try clear c13b1
     try clear p2
     obtain ⟨kq, x26_11, x1001_11, x1002_11, rfl, HA, HJ11, HO_3, HI0, HK, HB⟩ := hcut
     cases kq with
     | zero => exact absurd HA.out (by simp [spec_l10Draw.j1])
     | succ kj11 =>
      have H := HA.out
      clear HA
      simp only [spec_l10Draw.j1] at H
      by_cases c18 : x26_11 = true
      ·subst c18
       have H1 : ((spec_l1Below.f s0_0 x1001_11 x1002_11 (x3_1.length : Int)).bind fun bt221 => (if 0 ≤ bt221.1 then (if bt221.1 < (x3_1.length : Int) then ((some (x3_1.set (bt221.1 : Int).toNat (⟨(rd_T43 x3_1 bt221.1).f0, (rd_T43 x3_1 bt221.1).f1, true⟩ : S43) : List (S43))).bind fun y224 => (if (x3_1.length : Int) > 2 then ((spec_l1Once.f s0_0 bt221.2.1 bt221.2.2 3).bind fun bt225 => (if bt225.1 = true then ((some (([] : List (S43)) : List (S43))).bind fun y228 => (if 1 ≤ (x3_1.length : Int) then ((some (y224.take 1 : List (S43))).bind fun y231 => (if y228.length + y231.length < 5864062014805 then ((some (y228 ++ y231 : List (S43))).bind fun y235 => (if 2 ≤ (x3_1.length : Int) then ((some (y224.drop 2 : List (S43))).bind fun y238 => (if y235.length + y238.length < 5864062014805 then (some ((y235 ++ y238), bt225.2.1, bt225.2.2)) else (none))) else (none))) else (none))) else (none))) else (some (y224, bt225.2.1, bt225.2.2)))) else (some (y224, bt221.2.1, bt221.2.2)))) else (none)) else (none))) = some (r1, r2, r3) := by rw [if_pos rfl] at H; exact H
       clear H
       have H := H1
       clear H1
       replace H := Option.bind_eq_some_iff.mp H
       obtain ⟨⟨t221, t222, t223⟩, A190, H⟩ := H
       replace H : (if 0 ≤ t221 then (if t221 < (x3_1.length : Int) then ((some (x3_1.set (t221 : Int).toNat (⟨(rd_T43 x3_1 t221).f0, (rd_T43 x3_1 t221).f1, true⟩ : S43) : List (S43))).bind fun y224 => (if (x3_1.length : Int) > 2 then ((spec_l1Once.f s0_0 t222 t223 3).bind fun bt225 => (if bt225.1 = true then ((some (([] : List (S43)) : List (S43))).bind fun y228 => (if 1 ≤ (x3_1.length : Int) then ((some (y224.take 1 : List (S43))).bind fun y231 => (if y228.length + y231.length < 5864062014805 then ((some (y228 ++ y231 : List (S43))).bind fun y235 => (if 2 ≤ (x3_1.length : Int) then ((some (y224.drop 2 : List (S43))).bind fun y238 => (if y235.length + y238.length < 5864062014805 then (some ((y235 ++ y238), bt225.2.1, bt225.2.2)) else (none))) else (none))) else (none))) else (none))) else (some (y224, bt225.2.1, bt225.2.2)))) else (some (y224, t222, t223)))) else (none)) else (none)) = some (r1, r2, r3) := H
       have A19 := Aside0.mk A190
       clear A190
       obtain ⟨c20, H⟩ := ifS H
       have c20b0 : decide (0 ≤ t221) = true := decide_eq_true c20
       clear c20
       obtain ⟨c21, H⟩ := ifS H
       have c21b0 : decide (t221 < (x3_1.length : Int)) = true := decide_eq_true c21
       clear c21
       obtain ⟨y224, hy224⟩ : ∃ y_ : List (S43), y_ = (x3_1.set (t221 : Int).toNat (⟨(rd_T43 x3_1 t221).f0, (rd_T43 x3_1 t221).f1, true⟩ : S43)) := ⟨_, rfl⟩
       replace H : (if (x3_1.length : Int) > 2 then ((spec_l1Once.f s0_0 t222 t223 3).bind fun bt225 => (if bt225.1 = true then ((some (([] : List (S43)) : List (S43))).bind fun y228 => (if 1 ≤ (x3_1.length : Int) then ((some (y224.take 1 : List (S43))).bind fun y231 => (if y228.length + y231.length < 5864062014805 then ((some (y228 ++ y231 : List (S43))).bind fun y235 => (if 2 ≤ (x3_1.length : Int) then ((some (y224.drop 2 : List (S43))).bind fun y238 => (if y235.length + y238.length < 5864062014805 then (some ((y235 ++ y238), bt225.2.1, bt225.2.2)) else (none))) else (none))) else (none))) else (none))) else (some (y224, bt225.2.1, bt225.2.2)))) else (some (y224, t222, t223))) = some (r1, r2, r3) := by first | (rw [hy224]; with_reducible exact H) | (have H2_ := (Option.bind_some _ _).symm.trans H; rw [hy224]; with_reducible exact H2_) | (have H2_ := (Option.bind_some _ _).symm.trans H; with_reducible exact H2_) | with_reducible exact H | (rw [hy224]; exact H) | exact H
       have Ny224 := Aside0.mk hy224
       clear hy224
       by_cases c23 : (x3_1.length : Int) > 2
       ·rw [if_pos c23] at H
        have c23b0 : decide (2 < (x3_1.length : Int)) = true := decide_eq_true c23
        have c23b1 : decide (2 < x3_1.length) = true := decide_eq_true (by omega)
        clear c23
        replace H := Option.bind_eq_some_iff.mp H
        obtain ⟨⟨t225, t226, t227⟩, A240, H⟩ := H
        replace H : (if t225 = true then ((some (([] : List (S43)) : List (S43))).bind fun y228 => (if 1 ≤ (x3_1.length : Int) then ((some (y224.take 1 : List (S43))).bind fun y231 => (if y228.length + y231.length < 5864062014805 then ((some (y228 ++ y231 : List (S43))).bind fun y235 => (if 2 ≤ (x3_1.length : Int) then ((some (y224.drop 2 : List (S43))).bind fun y238 => (if y235.length + y238.length < 5864062014805 then (some ((y235 ++ y238), t226, t227)) else (none))) else (none))) else (none))) else (none))) else (some (y224, t226, t227))) = some (r1, r2, r3) := H
        have A24 := Aside0.mk A240
        clear A240
        by_cases c25 : t225 = true
        ·subst c25
         have H1 : ((some (([] : List (S43)) : List (S43))).bind fun y228 => (if 1 ≤ (x3_1.length : Int) then ((some (y224.take 1 : List (S43))).bind fun y231 => (if y228.length + y231.length < 5864062014805 then ((some (y228 ++ y231 : List (S43))).bind fun y235 => (if 2 ≤ (x3_1.length : Int) then ((some (y224.drop 2 : List (S43))).bind fun y238 => (if y235.length + y238.length < 5864062014805 then (some ((y235 ++ y238), t226, t227)) else (none))) else (none))) else (none))) else (none))) = some (r1, r2, r3) := by rw [if_pos rfl] at H; exact H
         clear H
         have H := H1
         clear H1
         obtain ⟨y228, hy228⟩ : ∃ y_ : List (S43), y_ = (([] : List (S43))) := ⟨_, rfl⟩
         replace H : (if 1 ≤ (x3_1.length : Int) then ((some (y224.take 1 : List (S43))).bind fun y231 => (if y228.length + y231.length < 5864062014805 then ((some (y228 ++ y231 : List (S43))).bind fun y235 => (if 2 ≤ (x3_1.length : Int) then ((some (y224.drop 2 : List (S43))).bind fun y238 => (if y235.length + y238.length < 5864062014805 then (some ((y235 ++ y238), t226, t227)) else (none))) else (none))) else (none))) else (none)) = some (r1, r2, r3) := by first | (rw [hy228]; with_reducible exact H) | (have H2_ := (Option.bind_some _ _).symm.trans H; rw [hy228]; with_reducible exact H2_) | (have H2_ := (Option.bind_some _ _).symm.trans H; with_reducible exact H2_) | with_reducible exact H | (rw [hy228]; exact H) | exact H
         have Ny228 := Aside0.mk hy228
         clear hy228
         obtain ⟨c26, H⟩ := ifS H
         have c26b0 := eq_true c26
         have c26b1 : decide (1 ≤ (x3_1.length : Int)) = true := decide_eq_true c26
         clear c26
         obtain ⟨y231, hy231⟩ : ∃ y_ : List (S43), y_ = (y224.take 1) := ⟨_, rfl⟩
         replace H : (if y228.length + y231.length < 5864062014805 then ((some (y228 ++ y231 : List (S43))).bind fun y235 => (if 2 ≤ (x3_1.length : Int) then ((some (y224.drop 2 : List (S43))).bind fun y238 => (if y235.length + y238.length < 5864062014805 then (some ((y235 ++ y238), t226, t227)) else (none))) else (none))) else (none)) = some (r1, r2, r3) := by first | (rw [hy231]; with_reducible exact H) | (have H2_ := (Option.bind_some _ _).symm.trans H; rw [hy231]; with_reducible exact H2_) | (have H2_ := (Option.bind_some _ _).symm.trans H; with_reducible exact H2_) | with_reducible exact H | (rw [hy231]; exact H) | exact H
         have Ny231 := Aside0.mk hy231
         clear hy231
         obtain ⟨c27, H⟩ := ifS H
         have LMc27 := Aside0.mk c27
         clear c27
         obtain ⟨y235, hy235⟩ : ∃ y_ : List (S43), y_ = (y228 ++ y231) := ⟨_, rfl⟩
         replace H : (if 2 ≤ (x3_1.length : Int) then ((some (y224.drop 2 : List (S43))).bind fun y238 => (if y235.length + y238.length < 5864062014805 then (some ((y235 ++ y238), t226, t227)) else (none))) else (none)) = some (r1, r2, r3) := by first | (rw [hy235]; with_reducible exact H) | (have H2_ := (Option.bind_some _ _).symm.trans H; rw [hy235]; with_reducible exact H2_) | (have H2_ := (Option.bind_some _ _).symm.trans H; with_reducible exact H2_) | with_reducible exact H | (rw [hy235]; exact H) | exact H
         have Ny235 := Aside0.mk hy235
         clear hy235
         obtain ⟨c28, H⟩ := ifS H
         have c28b0 := eq_true c28
         have c28b1 : decide (2 ≤ (x3_1.length : Int)) = true := decide_eq_true c28
         clear c28
         obtain ⟨y238, hy238⟩ : ∃ y_ : List (S43), y_ = (y224.drop 2) := ⟨_, rfl⟩
         replace H : (if y235.length + y238.length < 5864062014805 then (some ((y235 ++ y238), t226, t227)) else (none)) = some (r1, r2, r3) := by first | (rw [hy238]; with_reducible exact H) | (have H2_ := (Option.bind_some _ _).symm.trans H; rw [hy238]; with_reducible exact H2_) | (have H2_ := (Option.bind_some _ _).symm.trans H; with_reducible exact H2_) | with_reducible exact H | (rw [hy238]; exact H) | exact H
         have Ny238 := Aside0.mk hy238
         clear hy238
         obtain ⟨c29, H⟩ := ifS H
         have LMc29 := Aside0.mk c29
         clear c29
         obtain ⟨y242, hy242⟩ : ∃ y_ : List (S43), y_ = (y235 ++ y238) := ⟨_, rfl⟩
         replace H : (some (y242, t226, t227)) = some (r1, r2, r3) := by first | (rw [hy242]; with_reducible exact H) | (have H2_ := (Option.bind_some _ _).symm.trans H; rw [hy242]; with_reducible exact H2_) | (have H2_ := (Option.bind_some _ _).symm.trans H; with_reducible exact H2_) | with_reducible exact H | (rw [hy242]; exact H) | exact H
         have Ny242 := Aside0.mk hy242
         clear hy242
         simp only [Option.some.injEq, Prod.mk.injEq] at H
         obtain ⟨rfl, rfl, rfl⟩ := H
         obtain ⟨Ao30, co30, eo30⟩ := Kd.R_slice HO_3.out
         subst eo30
         try go_wp2_with (first | ((with_reducible refine gate_callee (f := 35) rfl ?_); refine goesL_ (some 31) rfl rfl Try.func35 (by kernel_rfl) rfl #[.pointer (some ⟨g, 0, none⟩), .int .i64 (x3_1.length : Int)] rfl zG ?_; (with_reducible refine (spec_l1Below.calls g s0_0 x1001_11 x1002_11 (x3_1.length : Int) t221 t222 t223 w0 _ ?side1 ?side2 A19.out).mono ?_); (case side1 => exact spec_l10Draw.zI63 HI0); (case side2 => repeat (first | (with_reducible first | exact HB.out | apply below_alloc | apply pw_below_drewN | apply below_drew1 | refine below_set ?_ (IsS63.ge HI0.out)) | exact HB.out)); rintro e w31 ⟨rfl, hi, hb, hk⟩; refine ⟨_, rfl, ?_⟩; replace HO_3 := Aside0.mk (Kd.R_mono (Kd.R_keep (IsS63.apart (show IsS63 w0 _ g s0_0 x1001_11 x1002_11 from spec_l10Draw.zI63 HI0) (zR HO_3) (by decide)) hk (fun _ h => h.2)) (fun _ h => h.1)); replace HK := Aside0.mk (KeepBut.trans (zH HK) hk (.inl rfl)); replace HB := Aside0.mk (hb); replace HI0 := Aside0.mk (hi); (try clear hb); have p22 : 0 ≤ (t221 : Int) := zD; have q22 : (t221 : Int) < ((x3_1.length : Int) : Int) := zD; obtain ⟨go22, co22, eo22, gb22, gl22, cl22, HG22⟩ := Kd.R_form HO_3.out (by omega); (first | cases eo22 | (injection eo22 with ea_ en_ ec_; (first | subst ea_ | (injection ea_ with ea_; subst ea_)); subst ec_; clear en_)); have GB22 := Aside0.mk gb22; have GG22 := Aside0.mk HG22; clear gb22 gl22 HG22; obtain ⟨ce22, hcl22, hM22, hcc22, hfr22⟩ := Kd.R_elem HO_3.out z43 (t221 : Int) p22 q22; obtain rfl := k43_openM hM22; have hx22_0 : w31.cell? ⟨go22, (t221 : Int).toNat * 3, none⟩ = some (.int .i64 ((rd_T43 x3_1 t221).f0)) := hcc22 0 _ rfl; have hx22_1 : w31.cell? ⟨go22, (t221 : Int).toNat * 3 + 1, none⟩ = some (.int .i64 ((rd_T43 x3_1 t221).f1)) := hcc22 1 _ rfl; have hx22_2 : w31.cell? ⟨go22, (t221 : Int).toNat * 3 + 2, none⟩ = some (.bool ((rd_T43 x3_1 t221).f2)) := hcc22 2 _ rfl; have hf22_0 : w31.frozen? ⟨go22, (t221 : Int).toNat * 3, none⟩ = false := hfr22 0; have hf22_1 : w31.frozen? ⟨go22, (t221 : Int).toNat * 3 + 1, none⟩ = false := hfr22 1; have hf22_2 : w31.frozen? ⟨go22, (t221 : Int).toNat * 3 + 2, none⟩ = false := hfr22 2; clear hcl22 hcc22 hfr22 hM22; replace p22 := eq_true p22; replace q22 := eq_true q22; have HX32 := Aside0.mk (show Kd.R k43 43 w31 w.heap.size (fun _ => True) (.slice (some ⟨go22, 0, none⟩) x3_1.length co30) x3_1 from (zR HO_3)); obtain ⟨ce32, hcl32, hM32, hcc32, hfr32⟩ := Kd.R_elem HX32.out z43 (t221 : Int) (zD) (by have h_ : (t221 : Int) < ((x3_1.length : Int) : Int) := zD; first | exact h_ | (have e_ := (Kd.R_reads' HO_3.out).1; omega) | simpa using h_); obtain rfl := k43_openM hM32; have HP32 := Kd.R_seg HX32.out (t221 : Int) (zD) (by have h_ : (t221 : Int) < ((x3_1.length : Int) : Int) := zD; first | exact h_ | (have e_ := (Kd.R_reads' HO_3.out).1; omega) | simpa using h_) (seg := [.bool true]) (j := 2) hcl32 hcc32 (show 3 ≤ 3 from by decide) (x' := (⟨(rd_T43 x3_1 t221).f0, (rd_T43 x3_1 t221).f1, true⟩ : S43)) (k43_mkM _ _ _ (⟨(rd_T43 x3_1 t221).f0, (rd_T43 x3_1 t221).f1, true⟩ : S43) ) (fun _ hk => hk); have hx32_2 := hcc32 2 _ rfl; (try simp only [show (k43).sz = 3 from rfl, Nat.mul_one, Nat.add_zero] at hx32_2); have hf32_2 := hfr32 2; (try simp only [show (k43).sz = 3 from rfl, Nat.mul_one, Nat.add_zero] at hf32_2); clear hcl32 hcc32 hfr32 hM32) | ((with_reducible refine gate_store (t := 4) (p := 33) rfl ?_); refine store_event (t := 4) (p := 33) (v := ?vo_w33) (w1 := (w31.setCell ⟨go22, (t221 : Int).toNat * 3 + 2, none⟩ (.bool true))) ?hg ?ho ?hn ?hr ?_; (case ho => rfl); (case hg => rfl); (case hn => rfl); (case hr => first | (go_simp; done) | (go_simp; rfl)); intro w33 hw; have hg : w31.grownBy w33 (some go22) := (by rw [hw]; exact HP32.2); have hp_ : Kd.R k43 43 w33 w.heap.size (fun _ => True) (.slice (some ⟨go22, 0, none⟩) x3_1.length co30) y224 := (by rw [hw, Ny224.out]; exact HP32.1); clear HP32; replace HI0 := Aside0.mk (IsS63.grown (spec_l10Draw.zI63 HI0) hg (IsS63.own_ne HI0.out HO_3.out (by decide))); replace HB := Aside0.mk ((by rw [hw]; exact below_set (HB.out) (Nat.le_trans HL.out GB22.out) : Below w0.heap.size w0 w33)); replace HK := Aside0.mk (KeepBut.trans (zH HK) (KeepBut.of_grown hg g) (Kd.R_base2 HO_3.out)); replace HO_3 := Aside0.mk (hp_); clear hg hw hp_) | (go_at_call 53; (with_reducible refine (spec_l1Once.calls g s0_0 t222 t223 3 true t226 t227 w0 _ ?side1 ?side2 A24.out).mono ?_); (case side1 => exact spec_l10Draw.zI63 HI0); (case side2 => repeat (first | (with_reducible first | exact HB.out | apply below_alloc | apply pw_below_drewN | apply below_drew1 | refine below_set ?_ (IsS63.ge HI0.out)) | exact HB.out)); rintro e w34 ⟨rfl, hi, hb, hk⟩; replace HO_3 := Aside0.mk (Kd.R_mono (Kd.R_keep (IsS63.apart (show IsS63 w0 _ g s0_0 t222 t223 from spec_l10Draw.zI63 HI0) (zR HO_3) (by decide)) hk (fun _ h => h.2)) (fun _ h => h.1)); replace HK := Aside0.mk (KeepBut.trans (zH HK) hk (.inl rfl)); replace HB := Aside0.mk (hb); replace HI0 := Aside0.mk (hi); (try clear hb)))
         replace HO_3 := Aside0.mk (Kd.R_drew HO_3.out)
         replace HI0 := Aside0.mk (IsS63.drew HI0.out)
         replace HK := Aside0.mk (keep_drew HK.out)
         replace HB := Aside0.mk (below_drew1 HB.out)
         have hlx36 := (Kd.R_reads' HO_3.out).1
         have q36 : (1 : Int) ≤ ((x3_1.length : Int) : Int) := zD
         obtain ⟨i036, hi036, _, hsz36, _⟩ := info_parts info43
         have hroom36 : x3_1.length ≤ co30 := (Kd.R_reads' HO_3.out).2.1
         have hroomc36 : y224.length ≤ co30 := (by rw [← hlx36]; exact hroom36)
         have hC36 : Kd.C k43 _ (some ⟨go22, 0, none⟩) y224.length y224 := (Kd.R_reads' HO_3.out).2.2
         have hcut36 := cut_to (P := Try.prog) 24 43 .i64 Try.underlying24 hi036 (some ⟨go22, 0, none⟩) x3_1.length co30 1 (by omega) q36 hroom36
         have hr36 := Kd.C_take (m := 1) hC36 (by omega)
         have hy36 : y231.length = (1 : Int).toNat := (by rw [Ny231.out, List.length_take]; omega)
         rw [← Ny231.out] at hr36
         rw [← hy36] at hcut36
         have HR234 := Aside0.mk hr36
         have HC234 := Aside0.mk (show y231.length ≤ co30 from by omega)
         clear hr36 hC36 hroom36 hi036 hsz36 hroomc36
         have KY36 := Aside0.mk hy36
         clear hy36
         have KE36 := Aside0.mk hlx36
         have KL36 := Aside0.mk (show 1 ≤ y224.length from by omega)
         clear hlx36
         replace q36 := eq_true q36
         have hlx37 := (Kd.R_reads' HO_3.out).1
         have q37 : (2 : Int) ≤ ((x3_1.length : Int) : Int) := zD
         obtain ⟨i037, hi037, _, hsz37, _⟩ := info_parts info43
         have hroom37 : x3_1.length ≤ co30 := (Kd.R_reads' HO_3.out).2.1
         have hroomc37 : y224.length ≤ co30 := (by rw [← hlx37]; exact hroom37)
         have hC37 : Kd.C k43 _ (some ⟨go22, 0, none⟩) y224.length y224 := (Kd.R_reads' HO_3.out).2.2
         have hcut37 := cut_from (P := Try.prog) 24 43 .i64 Try.underlying24 hi037 3 hsz37 (some ⟨go22, 0, none⟩) x3_1.length co30 2 (by omega) q37
         have hr37 := Kd.C_drop (m := (2 : Int).toNat) (c := co30) hC37 (by omega) hroomc37
         obtain ⟨A37, hA37⟩ : ∃ A1, A1 = (if co30 = (2 : Int).toNat then (some ⟨go22, 0, none⟩) else ((some ⟨go22, 0, none⟩) : Option Addr).map (·.add ((2 : Int).toNat * 3))) := ⟨_, rfl⟩
         obtain ⟨c37, hc37⟩ : ∃ c1, c1 = co30 - (2 : Int).toNat := ⟨_, rfl⟩
         have hy37 : y238.length = x3_1.length - (2 : Int).toNat := (by rw [Ny238.out, List.length_drop] <;> omega)
         rw [show (y224).drop (2 : Int).toNat = y238 from Ny238.out.symm] at hr37
         replace hr37 : Kd.C k43 _ A37 y238.length y238 := (by rw [hA37]; exact hr37)
         rw [← hy37, ← hA37, ← hc37] at hcut37
         have HR241 := Aside0.mk hr37
         have HC241 := Aside0.mk (show y238.length ≤ c37 from by rw [hy37, hc37]; exact Nat.sub_le_sub_right hroom37 _)
         clear hr37 hC37 hroom37 hi037 hsz37 hc37 hroomc37
         have KY37 := Aside0.mk hy37
         have KA37 := Aside0.mk hA37
         clear hy37 hA37
         have KE37 := Aside0.mk hlx37
         have KL37 := Aside0.mk (show 2 ≤ y224.length from by omega)
         clear hlx37
         replace q37 := eq_true q37
         refine start_ (n := 8) (S := fun w' => True) (ds := []) (bm 8 0) (by kernel_rfl) rfl (bm0 _) trivial (fun hHeld => ?_); refine with_tabW spec_l10Draw.tab9 spec_l10Draw.bits9 (fun HT_ HW_ => ?_)
         generalize w34.drew = w35 at HO_3 HI0 HK HB HR234 HR241 hHeld ⊢
         refine pU 1 (some 42) (bm 8 2) HT_ rfl rfl ?_
         refine pU 2 (some 43) (bm 8 6) HT_ rfl rfl ?_
         refine pU 4 (some 45) (bm 8 22) HT_ rfl rfl ?_
         refine pU 5 (some 46) (bm 8 54) HT_ rfl rfl ?_
         refine one_ (i := 0) (N := some 41) (bm 8 55) rfl rfl (one_of HT_.out (by kernel_rfl)) (by decide) (fun K hK => ?_)
         refine Kd.R_lit_step k43 _ 43 ?hg (N := 41) ?hd (xs := ([] : List (S43))) (inner := []) (ok := fun _ => True) (okp := fun _ => True) ?hr ?hp (fun _ hk => hk) trivial (Below.refl _ _) (Nat.le_refl _) (by simp) ?_; (case hd => rfl); (case hg => rfl); (case hr => first | (go_simp; done) | (go_simp; rfl)); (case hp => exact (Reps.none _ _))
         intro v229 w38 ho39 hb hg_ hnew_
         clear hg_ hnew_
         (first | rw [← Ny228.out] at ho39 | (simp only [Int.reduceToNat] at ho39; rw [← Ny228.out] at ho39))
         have HO230 := Aside0.mk (Kd.R_lower (Kd.R_new' ho39 (Kd.R_lt (zR HO_3))) (keep_size (w := w) (g := g) (row := none) (zH HK)))
         replace HO_3 := Aside0.mk (Kd.R_elder' (zR HO_3) (Kd.R_base ho39) hb)
         replace HR234 := Aside0.mk (Kd.C_below (by repeat (first | (with_reducible exact HR234.out) | (with_reducible refine Kd.C_alloc ?_ _) | (with_reducible refine Kd.C_drewN ?_ _) | (with_reducible refine Kd.C_drew ?_) | exact HR234.out)) hb)
         replace HR241 := Aside0.mk (Kd.C_below (by repeat (first | (with_reducible exact HR241.out) | (with_reducible refine Kd.C_alloc ?_ _) | (with_reducible refine Kd.C_drewN ?_ _) | (with_reducible refine Kd.C_drew ?_) | exact HR241.out)) hb)
         replace HK := Aside0.mk (KeepBut.trans (zH HK) (KeepBut.of_below hb g none) (.inl rfl))
         replace HB := Aside0.mk (below_step (by repeat (first | (with_reducible first | exact HB.out | apply below_alloc | apply pw_below_drewN | apply below_drew1 | refine below_set ?_ (IsS63.ge HI0.out)) | exact HB.out)) hb)
         replace HI0 := Aside0.mk (IsS63.below (spec_l10Draw.zI63 HI0) hb)
         clear hb ho39
         refine hK.out _ _ trivial (fun hHeld => ?_)
         clear hK K
         refine norm_ (a' := ?_) ?_ ?_
         rotate_left
         ·show Act.put _ (some 41) _ = _
          simp only [Act.put, List.setIfInBounds_toArray, List.set_cons_zero, List.set_cons_succ, i64_w, i32_w]
          rfl
         refine one_ (i := 3) (N := some 44) (bm 8 63) rfl rfl (one_of HT_.out (by kernel_rfl)) (by decide) (fun K hK => ?_)
         refine Kd.R_append_rows_step k43 w.heap.size (by rfl) (.tmp 41) (.tmp 43) 24 43 (.agg #[(.int .i64 0), (.int .i64 0), (.bool false)]) 24 rfl Try.underlying24 info43 rfl (by decide) (by omega) v229 y228 y231 _ _ _ (fun k_ => some k_ ≠ (.slice (some ⟨go22, 0, none⟩) x3_1.length co30 : Value).ownBlock) (fun _ => False) rfl rfl ?aO ?aR (fun _ _ h => h) (fun _ h => h.elim) ?aF (Below.refl _ _) ?aS ?aL ?_
         (case aR => repeat (first | exact (by repeat (first | (with_reducible exact HR234.out) | (with_reducible refine Kd.C_alloc ?_ _) | (with_reducible refine Kd.C_drewN ?_ _) | (with_reducible refine Kd.C_drew ?_) | exact HR234.out)) | (with_reducible refine Kd.C_alloc ?_ _) | (with_reducible refine Kd.C_drewN ?_ _) | (with_reducible refine Kd.C_drew ?_)))
         (case aF => exact (fun k_ hk => Kd.fresh' (Kd.R_lt (zR HO_3)) k_ hk))
         (case aO => exact (by (with_reducible repeat (first | apply Kd.R_alloc | apply Kd.R_drewN | apply Kd.R_drew)); exact Kd.R_mono HO230.out (fun _ hk => hk.2)))
         (case aS => exact (keep_size (w := w) (g := g) (row := none) (zH HK)))
         (case aL => have := LMc27.out; omega)
         intro v236 w40 ho hb hg hat
         rw [← Ny235.out] at ho
         replace HB := Aside0.mk (below_weaken (by repeat (first | (with_reducible first | exact HB.out | apply below_alloc | apply pw_below_drewN | apply below_drew1 | refine below_set ?_ (IsS63.ge HI0.out)) | exact HB.out)) HL.out hb)
         replace HI0 := Aside0.mk (IsS63.grown (spec_l10Draw.zI63 HI0) hg (IsS63.own_ne HI0.out HO230.out (by decide)))
         replace HK := Aside0.mk (KeepBut.trans (zH HK) (KeepBut.of_grown hg g) (Kd.R_base2 HO230.out))
         replace HR234 := Aside0.mk ((show Kd.C k43 w40 (some ⟨go22, 0, none⟩) y231.length y231 from by rw [Ny231.out]; exact Kd.C_take (m := 1) ((Kd.R_reads' (Kd.R_after (ok := (fun _ => True)) (zR HO_3) hg hat)).2.2) KL36.out))
         replace HR241 := Aside0.mk ((show Kd.C k43 w40 A37 y238.length y238 from by rw [Ny238.out, KA37.out]; exact Kd.C_drop (m := 2) (c := co30) ((Kd.R_reads' (Kd.R_after (ok := (fun _ => True)) (zR HO_3) hg hat)).2.2) KL37.out (by rw [← KE37.out]; exact (Kd.R_reads' (Kd.R_after (ok := (fun _ => True)) (zR HO_3) hg hat)).2.1)))
         replace HO_3 := Aside0.mk (Kd.R_after (ok := (fun _ => True)) (zR HO_3) hg hat)
         have HO237 := Aside0.mk (ho)
         clear HO230
         clear ho hb hg hat
         refine hK.out _ _ trivial (fun hHeld => ?_)
         clear hK K
         refine norm_ (a' := ?_) ?_ ?_
         rotate_left
         ·show Act.put _ (some 44) _ = _
          simp only [Act.put, List.setIfInBounds_toArray, List.set_cons_zero, List.set_cons_succ, i64_w, i32_w]
          rfl
         refine one_ (i := 6) (N := some 47) (bm 8 127) rfl rfl (one_of HT_.out (by kernel_rfl)) (by decide) (fun K hK => ?_)
         refine Kd.R_append_rows_step k43 w.heap.size (by rfl) (.tmp 44) (.tmp 46) 24 43 (.agg #[(.int .i64 0), (.int .i64 0), (.bool false)]) 24 rfl Try.underlying24 info43 rfl (by decide) (by omega) v236 y235 y238 _ _ _ (fun k_ => some k_ ≠ (.slice (some ⟨go22, 0, none⟩) x3_1.length co30 : Value).ownBlock) (fun _ => False) rfl rfl ?aO ?aR (fun _ _ h => h) (fun _ h => h.elim) ?aF (Below.refl _ _) ?aS ?aL ?_
         (case aR => repeat (first | exact (by repeat (first | (with_reducible exact HR241.out) | (with_reducible refine Kd.C_alloc ?_ _) | (with_reducible refine Kd.C_drewN ?_ _) | (with_reducible refine Kd.C_drew ?_) | exact HR241.out)) | (with_reducible refine Kd.C_alloc ?_ _) | (with_reducible refine Kd.C_drewN ?_ _) | (with_reducible refine Kd.C_drew ?_)))
         (case aF => exact (fun k_ hk => Kd.fresh' (Kd.R_lt (zR HO_3)) k_ hk))
         (case aO => exact (zR HO237))
         (case aS => exact (keep_size (w := w) (g := g) (row := none) (zH HK)))
         (case aL => have := LMc29.out; omega)
         intro v243 w41 ho hb hg hat
         rw [← Ny242.out] at ho
         replace HB := Aside0.mk (below_weaken (by repeat (first | (with_reducible first | exact HB.out | apply below_alloc | apply pw_below_drewN | apply below_drew1 | refine below_set ?_ (IsS63.ge HI0.out)) | exact HB.out)) HL.out hb)
         replace HI0 := Aside0.mk (IsS63.grown (spec_l10Draw.zI63 HI0) hg (IsS63.own_ne HI0.out HO237.out (by decide)))
         replace HK := Aside0.mk (KeepBut.trans (zH HK) (KeepBut.of_grown hg g) (Kd.R_base2 HO237.out))
         replace HR234 := Aside0.mk ((show Kd.C k43 w41 (some ⟨go22, 0, none⟩) y231.length y231 from by rw [Ny231.out]; exact Kd.C_take (m := 1) ((Kd.R_reads' (Kd.R_after (ok := (fun _ => True)) (zR HO_3) hg hat)).2.2) KL36.out))
         replace HR241 := Aside0.mk ((show Kd.C k43 w41 A37 y238.length y238 from by rw [Ny238.out, KA37.out]; exact Kd.C_drop (m := 2) (c := co30) ((Kd.R_reads' (Kd.R_after (ok := (fun _ => True)) (zR HO_3) hg hat)).2.2) KL37.out (by rw [← KE37.out]; exact (Kd.R_reads' (Kd.R_after (ok := (fun _ => True)) (zR HO_3) hg hat)).2.1)))
         replace HO_3 := Aside0.mk (Kd.R_after (ok := (fun _ => True)) (zR HO_3) hg hat)
         have HO244 := Aside0.mk (ho)
         clear HO237
         clear ho hb hg hat
         refine hK.out _ _ trivial (fun hHeld => ?_)
         clear hK K
         refine norm_ (a' := ?_) ?_ ?_
         rotate_left
         ·show Act.put _ (some 47) _ = _
          simp only [Act.put, List.setIfInBounds_toArray, List.set_cons_zero, List.set_cons_succ, i64_w, i32_w]
          rfl
         refine pU 7 (some 3) (bm 8 255) HT_ rfl rfl ?_
         refine done_ (done_of HT_.out (by kernel_rfl)) ?_
         try clear hHeld
         try go_wp2
         go_ret
         exact ⟨_, zE, by (with_reducible repeat (first | apply Kd.R_alloc | apply Kd.R_drewN | apply Kd.R_drew)); exact Kd.R_mono HO244.out (fun _ hk => trivial), spec_l10Draw.zI63 HI0, by repeat (first | (with_reducible first | exact HB.out | apply below_alloc | apply pw_below_drewN | apply below_drew1 | refine below_set ?_ (IsS63.ge HI0.out)) | exact HB.out), zH HK⟩
        ·replace c25 := Bool.eq_false_iff.mpr c25
         subst c25
         have H1 : (some (y224, t226, t227)) = some (r1, r2, r3) := by rw [if_neg (show ¬ (false = true) by decide)] at H; exact H
         clear H
         have H := H1
         clear H1
         simp only [Option.some.injEq, Prod.mk.injEq] at H
         obtain ⟨rfl, rfl, rfl⟩ := H
         obtain ⟨Ao42, co42, eo42⟩ := Kd.R_slice HO_3.out
         subst eo42
         go_wp2_with (first | ((with_reducible refine gate_callee (f := 35) rfl ?_); refine goesL_ (some 31) rfl rfl Try.func35 (by kernel_rfl) rfl #[.pointer (some ⟨g, 0, none⟩), .int .i64 (x3_1.length : Int)] rfl zG ?_; (with_reducible refine (spec_l1Below.calls g s0_0 x1001_11 x1002_11 (x3_1.length : Int) t221 t222 t223 w0 _ ?side1 ?side2 A19.out).mono ?_); (case side1 => exact spec_l10Draw.zI63 HI0); (case side2 => repeat (first | (with_reducible first | exact HB.out | apply below_alloc | apply pw_below_drewN | apply below_drew1 | refine below_set ?_ (IsS63.ge HI0.out)) | exact HB.out)); rintro e w43 ⟨rfl, hi, hb, hk⟩; refine ⟨_, rfl, ?_⟩; replace HO_3 := Aside0.mk (Kd.R_mono (Kd.R_keep (IsS63.apart (show IsS63 w0 _ g s0_0 x1001_11 x1002_11 from spec_l10Draw.zI63 HI0) (zR HO_3) (by decide)) hk (fun _ h => h.2)) (fun _ h => h.1)); replace HK := Aside0.mk (KeepBut.trans (zH HK) hk (.inl rfl)); replace HB := Aside0.mk (hb); replace HI0 := Aside0.mk (hi); (try clear hb); have p22 : 0 ≤ (t221 : Int) := zD; have q22 : (t221 : Int) < ((x3_1.length : Int) : Int) := zD; obtain ⟨go22, co22, eo22, gb22, gl22, cl22, HG22⟩ := Kd.R_form HO_3.out (by omega); (first | cases eo22 | (injection eo22 with ea_ en_ ec_; (first | subst ea_ | (injection ea_ with ea_; subst ea_)); subst ec_; clear en_)); have GB22 := Aside0.mk gb22; have GG22 := Aside0.mk HG22; clear gb22 gl22 HG22; obtain ⟨ce22, hcl22, hM22, hcc22, hfr22⟩ := Kd.R_elem HO_3.out z43 (t221 : Int) p22 q22; obtain rfl := k43_openM hM22; have hx22_0 : w43.cell? ⟨go22, (t221 : Int).toNat * 3, none⟩ = some (.int .i64 ((rd_T43 x3_1 t221).f0)) := hcc22 0 _ rfl; have hx22_1 : w43.cell? ⟨go22, (t221 : Int).toNat * 3 + 1, none⟩ = some (.int .i64 ((rd_T43 x3_1 t221).f1)) := hcc22 1 _ rfl; have hx22_2 : w43.cell? ⟨go22, (t221 : Int).toNat * 3 + 2, none⟩ = some (.bool ((rd_T43 x3_1 t221).f2)) := hcc22 2 _ rfl; have hf22_0 : w43.frozen? ⟨go22, (t221 : Int).toNat * 3, none⟩ = false := hfr22 0; have hf22_1 : w43.frozen? ⟨go22, (t221 : Int).toNat * 3 + 1, none⟩ = false := hfr22 1; have hf22_2 : w43.frozen? ⟨go22, (t221 : Int).toNat * 3 + 2, none⟩ = false := hfr22 2; clear hcl22 hcc22 hfr22 hM22; replace p22 := eq_true p22; replace q22 := eq_true q22; have HX44 := Aside0.mk (show Kd.R k43 43 w43 w.heap.size (fun _ => True) (.slice (some ⟨go22, 0, none⟩) x3_1.length co42) x3_1 from (zR HO_3)); obtain ⟨ce44, hcl44, hM44, hcc44, hfr44⟩ := Kd.R_elem HX44.out z43 (t221 : Int) (zD) (by have h_ : (t221 : Int) < ((x3_1.length : Int) : Int) := zD; first | exact h_ | (have e_ := (Kd.R_reads' HO_3.out).1; omega) | simpa using h_); obtain rfl := k43_openM hM44; have HP44 := Kd.R_seg HX44.out (t221 : Int) (zD) (by have h_ : (t221 : Int) < ((x3_1.length : Int) : Int) := zD; first | exact h_ | (have e_ := (Kd.R_reads' HO_3.out).1; omega) | simpa using h_) (seg := [.bool true]) (j := 2) hcl44 hcc44 (show 3 ≤ 3 from by decide) (x' := (⟨(rd_T43 x3_1 t221).f0, (rd_T43 x3_1 t221).f1, true⟩ : S43)) (k43_mkM _ _ _ (⟨(rd_T43 x3_1 t221).f0, (rd_T43 x3_1 t221).f1, true⟩ : S43) ) (fun _ hk => hk); have hx44_2 := hcc44 2 _ rfl; (try simp only [show (k43).sz = 3 from rfl, Nat.mul_one, Nat.add_zero] at hx44_2); have hf44_2 := hfr44 2; (try simp only [show (k43).sz = 3 from rfl, Nat.mul_one, Nat.add_zero] at hf44_2); clear hcl44 hcc44 hfr44 hM44) | ((with_reducible refine gate_store (t := 4) (p := 33) rfl ?_); refine store_event (t := 4) (p := 33) (v := ?vo_w45) (w1 := (w43.setCell ⟨go22, (t221 : Int).toNat * 3 + 2, none⟩ (.bool true))) ?hg ?ho ?hn ?hr ?_; (case ho => rfl); (case hg => rfl); (case hn => rfl); (case hr => first | (go_simp; done) | (go_simp; rfl)); intro w45 hw; have hg : w43.grownBy w45 (some go22) := (by rw [hw]; exact HP44.2); have hp_ : Kd.R k43 43 w45 w.heap.size (fun _ => True) (.slice (some ⟨go22, 0, none⟩) x3_1.length co42) y224 := (by rw [hw, Ny224.out]; exact HP44.1); clear HP44; replace HI0 := Aside0.mk (IsS63.grown (spec_l10Draw.zI63 HI0) hg (IsS63.own_ne HI0.out HO_3.out (by decide))); replace HB := Aside0.mk ((by rw [hw]; exact below_set (HB.out) (Nat.le_trans HL.out GB22.out) : Below w0.heap.size w0 w45)); replace HK := Aside0.mk (KeepBut.trans (zH HK) (KeepBut.of_grown hg g) (Kd.R_base2 HO_3.out)); replace HO_3 := Aside0.mk (hp_); clear hg hw hp_) | (go_at_call 53; (with_reducible refine (spec_l1Once.calls g s0_0 t222 t223 3 false t226 t227 w0 _ ?side1 ?side2 A24.out).mono ?_); (case side1 => exact spec_l10Draw.zI63 HI0); (case side2 => repeat (first | (with_reducible first | exact HB.out | apply below_alloc | apply pw_below_drewN | apply below_drew1 | refine below_set ?_ (IsS63.ge HI0.out)) | exact HB.out)); rintro e w46 ⟨rfl, hi, hb, hk⟩; replace HO_3 := Aside0.mk (Kd.R_mono (Kd.R_keep (IsS63.apart (show IsS63 w0 _ g s0_0 t222 t223 from spec_l10Draw.zI63 HI0) (zR HO_3) (by decide)) hk (fun _ h => h.2)) (fun _ h => h.1)); replace HK := Aside0.mk (KeepBut.trans (zH HK) hk (.inl rfl)); replace HB := Aside0.mk (hb); replace HI0 := Aside0.mk (hi); (try clear hb)))
         go_ret
         exact ⟨_, zE, by (with_reducible repeat (first | apply Kd.R_alloc | apply Kd.R_drewN | apply Kd.R_drew)); exact HO_3.out, spec_l10Draw.zI63 HI0, by repeat (first | (with_reducible first | exact HB.out | apply below_alloc | apply pw_below_drewN | apply below_drew1 | refine below_set ?_ (IsS63.ge HI0.out)) | exact HB.out), zH HK⟩
       ·rw [if_neg c23] at H
        have c23b0 : decide (2 < (x3_1.length : Int)) = false := decide_eq_false c23
        have c23b1 : decide (2 < x3_1.length) = false := decide_eq_false (by omega)
        clear c23
        simp only [Option.some.injEq, Prod.mk.injEq] at H
        obtain ⟨rfl, rfl, rfl⟩ := H
        obtain ⟨Ao47, co47, eo47⟩ := Kd.R_slice HO_3.out
        subst eo47
        go_wp2_with (first | ((with_reducible refine gate_callee (f := 35) rfl ?_); refine goesL_ (some 31) rfl rfl Try.func35 (by kernel_rfl) rfl #[.pointer (some ⟨g, 0, none⟩), .int .i64 (x3_1.length : Int)] rfl zG ?_; (with_reducible refine (spec_l1Below.calls g s0_0 x1001_11 x1002_11 (x3_1.length : Int) t221 t222 t223 w0 _ ?side1 ?side2 A19.out).mono ?_); (case side1 => exact spec_l10Draw.zI63 HI0); (case side2 => repeat (first | (with_reducible first | exact HB.out | apply below_alloc | apply pw_below_drewN | apply below_drew1 | refine below_set ?_ (IsS63.ge HI0.out)) | exact HB.out)); rintro e w48 ⟨rfl, hi, hb, hk⟩; refine ⟨_, rfl, ?_⟩; replace HO_3 := Aside0.mk (Kd.R_mono (Kd.R_keep (IsS63.apart (show IsS63 w0 _ g s0_0 x1001_11 x1002_11 from spec_l10Draw.zI63 HI0) (zR HO_3) (by decide)) hk (fun _ h => h.2)) (fun _ h => h.1)); replace HK := Aside0.mk (KeepBut.trans (zH HK) hk (.inl rfl)); replace HB := Aside0.mk (hb); replace HI0 := Aside0.mk (hi); (try clear hb); have p22 : 0 ≤ (t221 : Int) := zD; have q22 : (t221 : Int) < ((x3_1.length : Int) : Int) := zD; obtain ⟨go22, co22, eo22, gb22, gl22, cl22, HG22⟩ := Kd.R_form HO_3.out (by omega); (first | cases eo22 | (injection eo22 with ea_ en_ ec_; (first | subst ea_ | (injection ea_ with ea_; subst ea_)); subst ec_; clear en_)); have GB22 := Aside0.mk gb22; have GG22 := Aside0.mk HG22; clear gb22 gl22 HG22; obtain ⟨ce22, hcl22, hM22, hcc22, hfr22⟩ := Kd.R_elem HO_3.out z43 (t221 : Int) p22 q22; obtain rfl := k43_openM hM22; have hx22_0 : w48.cell? ⟨go22, (t221 : Int).toNat * 3, none⟩ = some (.int .i64 ((rd_T43 x3_1 t221).f0)) := hcc22 0 _ rfl; have hx22_1 : w48.cell? ⟨go22, (t221 : Int).toNat * 3 + 1, none⟩ = some (.int .i64 ((rd_T43 x3_1 t221).f1)) := hcc22 1 _ rfl; have hx22_2 : w48.cell? ⟨go22, (t221 : Int).toNat * 3 + 2, none⟩ = some (.bool ((rd_T43 x3_1 t221).f2)) := hcc22 2 _ rfl; have hf22_0 : w48.frozen? ⟨go22, (t221 : Int).toNat * 3, none⟩ = false := hfr22 0; have hf22_1 : w48.frozen? ⟨go22, (t221 : Int).toNat * 3 + 1, none⟩ = false := hfr22 1; have hf22_2 : w48.frozen? ⟨go22, (t221 : Int).toNat * 3 + 2, none⟩ = false := hfr22 2; clear hcl22 hcc22 hfr22 hM22; replace p22 := eq_true p22; replace q22 := eq_true q22; have HX49 := Aside0.mk (show Kd.R k43 43 w48 w.heap.size (fun _ => True) (.slice (some ⟨go22, 0, none⟩) x3_1.length co47) x3_1 from (zR HO_3)); obtain ⟨ce49, hcl49, hM49, hcc49, hfr49⟩ := Kd.R_elem HX49.out z43 (t221 : Int) (zD) (by have h_ : (t221 : Int) < ((x3_1.length : Int) : Int) := zD; first | exact h_ | (have e_ := (Kd.R_reads' HO_3.out).1; omega) | simpa using h_); obtain rfl := k43_openM hM49; have HP49 := Kd.R_seg HX49.out (t221 : Int) (zD) (by have h_ : (t221 : Int) < ((x3_1.length : Int) : Int) := zD; first | exact h_ | (have e_ := (Kd.R_reads' HO_3.out).1; omega) | simpa using h_) (seg := [.bool true]) (j := 2) hcl49 hcc49 (show 3 ≤ 3 from by decide) (x' := (⟨(rd_T43 x3_1 t221).f0, (rd_T43 x3_1 t221).f1, true⟩ : S43)) (k43_mkM _ _ _ (⟨(rd_T43 x3_1 t221).f0, (rd_T43 x3_1 t221).f1, true⟩ : S43) ) (fun _ hk => hk); have hx49_2 := hcc49 2 _ rfl; (try simp only [show (k43).sz = 3 from rfl, Nat.mul_one, Nat.add_zero] at hx49_2); have hf49_2 := hfr49 2; (try simp only [show (k43).sz = 3 from rfl, Nat.mul_one, Nat.add_zero] at hf49_2); clear hcl49 hcc49 hfr49 hM49) | ((with_reducible refine gate_store (t := 4) (p := 33) rfl ?_); refine store_event (t := 4) (p := 33) (v := ?vo_w50) (w1 := (w48.setCell ⟨go22, (t221 : Int).toNat * 3 + 2, none⟩ (.bool true))) ?hg ?ho ?hn ?hr ?_; (case ho => rfl); (case hg => rfl); (case hn => rfl); (case hr => first | (go_simp; done) | (go_simp; rfl)); intro w50 hw; have hg : w48.grownBy w50 (some go22) := (by rw [hw]; exact HP49.2); have hp_ : Kd.R k43 43 w50 w.heap.size (fun _ => True) (.slice (some ⟨go22, 0, none⟩) x3_1.length co47) y224 := (by rw [hw, Ny224.out]; exact HP49.1); clear HP49; replace HI0 := Aside0.mk (IsS63.grown (spec_l10Draw.zI63 HI0) hg (IsS63.own_ne HI0.out HO_3.out (by decide))); replace HB := Aside0.mk ((by rw [hw]; exact below_set (HB.out) (Nat.le_trans HL.out GB22.out) : Below w0.heap.size w0 w50)); replace HK := Aside0.mk (KeepBut.trans (zH HK) (KeepBut.of_grown hg g) (Kd.R_base2 HO_3.out)); replace HO_3 := Aside0.mk (hp_); clear hg hw hp_))
        go_ret
        exact ⟨_, zE, by (with_reducible repeat (first | apply Kd.R_alloc | apply Kd.R_drewN | apply Kd.R_drew)); exact HO_3.out, spec_l10Draw.zI63 HI0, by repeat (first | (with_reducible first | exact HB.out | apply below_alloc | apply pw_below_drewN | apply below_drew1 | refine below_set ?_ (IsS63.ge HI0.out)) | exact HB.out), zH HK⟩
      ·replace c18 := Bool.eq_false_iff.mpr c18
       subst c18
       have H1 : (if (x3_1.length : Int) > 2 then ((spec_l1Once.f s0_0 x1001_11 x1002_11 3).bind fun bt245 => (if bt245.1 = true then ((some (([] : List (S43)) : List (S43))).bind fun y248 => (if 1 ≤ (x3_1.length : Int) then ((some (x3_1.take 1 : List (S43))).bind fun y251 => (if y248.length + y251.length < 5864062014805 then ((some (y248 ++ y251 : List (S43))).bind fun y255 => (if 2 ≤ (x3_1.length : Int) then ((some (x3_1.drop 2 : List (S43))).bind fun y258 => (if y255.length + y258.length < 5864062014805 then (some ((y255 ++ y258), bt245.2.1, bt245.2.2)) else (none))) else (none))) else (none))) else (none))) else (some (x3_1, bt245.2.1, bt245.2.2)))) else (some (x3_1, x1001_11, x1002_11))) = some (r1, r2, r3) := by rw [if_neg (show ¬ (false = true) by decide)] at H; exact H
       clear H
       have H := H1
       clear H1
       by_cases c51 : (x3_1.length : Int) > 2
       ·rw [if_pos c51] at H
        have c51b0 : decide (2 < (x3_1.length : Int)) = true := decide_eq_true c51
        have c51b1 : decide (2 < x3_1.length) = true := decide_eq_true (by omega)
        clear c51
        replace H := Option.bind_eq_some_iff.mp H
        obtain ⟨⟨t245, t246, t247⟩, A520, H⟩ := H
        replace H : (if t245 = true then ((some (([] : List (S43)) : List (S43))).bind fun y248 => (if 1 ≤ (x3_1.length : Int) then ((some (x3_1.take 1 : List (S43))).bind fun y251 => (if y248.length + y251.length < 5864062014805 then ((some (y248 ++ y251 : List (S43))).bind fun y255 => (if 2 ≤ (x3_1.length : Int) then ((some (x3_1.drop 2 : List (S43))).bind fun y258 => (if y255.length + y258.length < 5864062014805 then (some ((y255 ++ y258), t246, t247)) else (none))) else (none))) else (none))) else (none))) else (some (x3_1, t246, t247))) = some (r1, r2, r3) := H
        have A52 := Aside0.mk A520
        clear A520
        by_cases c53 : t245 = true
        ·subst c53
         have H1 : ((some (([] : List (S43)) : List (S43))).bind fun y248 => (if 1 ≤ (x3_1.length : Int) then ((some (x3_1.take 1 : List (S43))).bind fun y251 => (if y248.length + y251.length < 5864062014805 then ((some (y248 ++ y251 : List (S43))).bind fun y255 => (if 2 ≤ (x3_1.length : Int) then ((some (x3_1.drop 2 : List (S43))).bind fun y258 => (if y255.length + y258.length < 5864062014805 then (some ((y255 ++ y258), t246, t247)) else (none))) else (none))) else (none))) else (none))) = some (r1, r2, r3) := by rw [if_pos rfl] at H; exact H
         clear H
         have H := H1
         clear H1
         obtain ⟨y248, hy248⟩ : ∃ y_ : List (S43), y_ = (([] : List (S43))) := ⟨_, rfl⟩
         replace H : (if 1 ≤ (x3_1.length : Int) then ((some (x3_1.take 1 : List (S43))).bind fun y251 => (if y248.length + y251.length < 5864062014805 then ((some (y248 ++ y251 : List (S43))).bind fun y255 => (if 2 ≤ (x3_1.length : Int) then ((some (x3_1.drop 2 : List (S43))).bind fun y258 => (if y255.length + y258.length < 5864062014805 then (some ((y255 ++ y258), t246, t247)) else (none))) else (none))) else (none))) else (none)) = some (r1, r2, r3) := by first | (rw [hy248]; with_reducible exact H) | (have H2_ := (Option.bind_some _ _).symm.trans H; rw [hy248]; with_reducible exact H2_) | (have H2_ := (Option.bind_some _ _).symm.trans H; with_reducible exact H2_) | with_reducible exact H | (rw [hy248]; exact H) | exact H
         have Ny248 := Aside0.mk hy248
         clear hy248
         obtain ⟨c54, H⟩ := ifS H
         have c54b0 := eq_true c54
         have c54b1 : decide (1 ≤ (x3_1.length : Int)) = true := decide_eq_true c54
         clear c54
         obtain ⟨y251, hy251⟩ : ∃ y_ : List (S43), y_ = (x3_1.take 1) := ⟨_, rfl⟩
         replace H : (if y248.length + y251.length < 5864062014805 then ((some (y248 ++ y251 : List (S43))).bind fun y255 => (if 2 ≤ (x3_1.length : Int) then ((some (x3_1.drop 2 : List (S43))).bind fun y258 => (if y255.length + y258.length < 5864062014805 then (some ((y255 ++ y258), t246, t247)) else (none))) else (none))) else (none)) = some (r1, r2, r3) := by first | (rw [hy251]; with_reducible exact H) | (have H2_ := (Option.bind_some _ _).symm.trans H; rw [hy251]; with_reducible exact H2_) | (have H2_ := (Option.bind_some _ _).symm.trans H; with_reducible exact H2_) | with_reducible exact H | (rw [hy251]; exact H) | exact H
         have Ny251 := Aside0.mk hy251
         clear hy251
         obtain ⟨c55, H⟩ := ifS H
         have LMc55 := Aside0.mk c55
         clear c55
         obtain ⟨y255, hy255⟩ : ∃ y_ : List (S43), y_ = (y248 ++ y251) := ⟨_, rfl⟩
         replace H : (if 2 ≤ (x3_1.length : Int) then ((some (x3_1.drop 2 : List (S43))).bind fun y258 => (if y255.length + y258.length < 5864062014805 then (some ((y255 ++ y258), t246, t247)) else (none))) else (none)) = some (r1, r2, r3) := by first | (rw [hy255]; with_reducible exact H) | (have H2_ := (Option.bind_some _ _).symm.trans H; rw [hy255]; with_reducible exact H2_) | (have H2_ := (Option.bind_some _ _).symm.trans H; with_reducible exact H2_) | with_reducible exact H | (rw [hy255]; exact H) | exact H
         have Ny255 := Aside0.mk hy255
         clear hy255
         obtain ⟨c56, H⟩ := ifS H
         have c56b0 := eq_true c56
         have c56b1 : decide (2 ≤ (x3_1.length : Int)) = true := decide_eq_true c56
         clear c56
         obtain ⟨y258, hy258⟩ : ∃ y_ : List (S43), y_ = (x3_1.drop 2) := ⟨_, rfl⟩
         replace H : (if y255.length + y258.length < 5864062014805 then (some ((y255 ++ y258), t246, t247)) else (none)) = some (r1, r2, r3) := by first | (rw [hy258]; with_reducible exact H) | (have H2_ := (Option.bind_some _ _).symm.trans H; rw [hy258]; with_reducible exact H2_) | (have H2_ := (Option.bind_some _ _).symm.trans H; with_reducible exact H2_) | with_reducible exact H | (rw [hy258]; exact H) | exact H
         have Ny258 := Aside0.mk hy258
         clear hy258
         obtain ⟨c57, H⟩ := ifS H
         have LMc57 := Aside0.mk c57
         clear c57
         obtain ⟨y262, hy262⟩ : ∃ y_ : List (S43), y_ = (y255 ++ y258) := ⟨_, rfl⟩
         replace H : (some (y262, t246, t247)) = some (r1, r2, r3) := by first | (rw [hy262]; with_reducible exact H) | (have H2_ := (Option.bind_some _ _).symm.trans H; rw [hy262]; with_reducible exact H2_) | (have H2_ := (Option.bind_some _ _).symm.trans H; with_reducible exact H2_) | with_reducible exact H | (rw [hy262]; exact H) | exact H
         have Ny262 := Aside0.mk hy262
         clear hy262
         simp only [Option.some.injEq, Prod.mk.injEq] at H
         obtain ⟨rfl, rfl, rfl⟩ := H
         obtain ⟨Ao58, co58, eo58⟩ := Kd.R_slice HO_3.out
         subst eo58
         try go_wp2_with (first | (go_at_call 53; (with_reducible refine (spec_l1Once.calls g s0_0 x1001_11 x1002_11 3 true t246 t247 w0 _ ?side1 ?side2 A52.out).mono ?_); (case side1 => exact spec_l10Draw.zI63 HI0); (case side2 => repeat (first | (with_reducible first | exact HB.out | apply below_alloc | apply pw_below_drewN | apply below_drew1 | refine below_set ?_ (IsS63.ge HI0.out)) | exact HB.out)); rintro e w59 ⟨rfl, hi, hb, hk⟩; replace HO_3 := Aside0.mk (Kd.R_mono (Kd.R_keep (IsS63.apart (show IsS63 w0 _ g s0_0 x1001_11 x1002_11 from spec_l10Draw.zI63 HI0) (zR HO_3) (by decide)) hk (fun _ h => h.2)) (fun _ h => h.1)); replace HK := Aside0.mk (KeepBut.trans (zH HK) hk (.inl rfl)); replace HB := Aside0.mk (hb); replace HI0 := Aside0.mk (hi); (try clear hb)))
         replace HO_3 := Aside0.mk (Kd.R_drew HO_3.out)
         replace HI0 := Aside0.mk (IsS63.drew HI0.out)
         replace HK := Aside0.mk (keep_drew HK.out)
         replace HB := Aside0.mk (below_drew1 HB.out)
         have q61 : (1 : Int) ≤ ((x3_1.length : Int) : Int) := zD
         obtain ⟨i061, hi061, _, hsz61, _⟩ := info_parts info43
         have hroom61 : x3_1.length ≤ co58 := (Kd.R_reads' HO_3.out).2.1
         have hC61 : Kd.C k43 _ Ao58 x3_1.length x3_1 := (Kd.R_reads' HO_3.out).2.2
         have hcut61 := cut_to (P := Try.prog) 24 43 .i64 Try.underlying24 hi061 Ao58 x3_1.length co58 1 (by omega) q61 hroom61
         have hr61 := Kd.C_take (m := 1) hC61 (by omega)
         have hy61 : y251.length = (1 : Int).toNat := (by rw [Ny251.out, List.length_take]; omega)
         rw [← Ny251.out] at hr61
         rw [← hy61] at hcut61
         have HR254 := Aside0.mk hr61
         have HC254 := Aside0.mk (show y251.length ≤ co58 from by omega)
         clear hr61 hC61 hroom61 hi061 hsz61
         have KY61 := Aside0.mk hy61
         clear hy61
         have KL61 := Aside0.mk (show 1 ≤ x3_1.length from by omega)
         replace q61 := eq_true q61
         have q62 : (2 : Int) ≤ ((x3_1.length : Int) : Int) := zD
         obtain ⟨i062, hi062, _, hsz62, _⟩ := info_parts info43
         have hroom62 : x3_1.length ≤ co58 := (Kd.R_reads' HO_3.out).2.1
         have hC62 : Kd.C k43 _ Ao58 x3_1.length x3_1 := (Kd.R_reads' HO_3.out).2.2
         have hcut62 := cut_from (P := Try.prog) 24 43 .i64 Try.underlying24 hi062 3 hsz62 Ao58 x3_1.length co58 2 (by omega) q62
         have hr62 := Kd.C_drop (m := (2 : Int).toNat) (c := co58) hC62 (by omega) hroom62
         obtain ⟨A62, hA62⟩ : ∃ A1, A1 = (if co58 = (2 : Int).toNat then Ao58 else (Ao58 : Option Addr).map (·.add ((2 : Int).toNat * 3))) := ⟨_, rfl⟩
         obtain ⟨c62, hc62⟩ : ∃ c1, c1 = co58 - (2 : Int).toNat := ⟨_, rfl⟩
         have hy62 : y258.length = x3_1.length - (2 : Int).toNat := (by rw [Ny258.out, List.length_drop] <;> omega)
         rw [show (x3_1).drop (2 : Int).toNat = y258 from Ny258.out.symm] at hr62
         replace hr62 : Kd.C k43 _ A62 y258.length y258 := (by rw [hA62]; exact hr62)
         rw [← hy62, ← hA62, ← hc62] at hcut62
         have HR261 := Aside0.mk hr62
         have HC261 := Aside0.mk (show y258.length ≤ c62 from by rw [hy62, hc62]; exact Nat.sub_le_sub_right hroom62 _)
         clear hr62 hC62 hroom62 hi062 hsz62 hc62
         have KY62 := Aside0.mk hy62
         have KA62 := Aside0.mk hA62
         clear hy62 hA62
         have KL62 := Aside0.mk (show 2 ≤ x3_1.length from by omega)
         replace q62 := eq_true q62
         refine start_ (n := 8) (S := fun w' => True) (ds := []) (bm 8 0) (by kernel_rfl) rfl (bm0 _) trivial (fun hHeld => ?_); refine with_tabW spec_l10Draw.tab9 spec_l10Draw.bits9 (fun HT_ HW_ => ?_)
         generalize w59.drew = w60 at HO_3 HI0 HK HB HR254 HR261 hHeld ⊢
         refine pU 1 (some 42) (bm 8 2) HT_ rfl rfl ?_
         refine pU 2 (some 43) (bm 8 6) HT_ rfl rfl ?_
         refine pU 4 (some 45) (bm 8 22) HT_ rfl rfl ?_
         refine pU 5 (some 46) (bm 8 54) HT_ rfl rfl ?_
         refine one_ (i := 0) (N := some 41) (bm 8 55) rfl rfl (one_of HT_.out (by kernel_rfl)) (by decide) (fun K hK => ?_)
         refine Kd.R_lit_step k43 _ 43 ?hg (N := 41) ?hd (xs := ([] : List (S43))) (inner := []) (ok := fun _ => True) (okp := fun _ => True) ?hr ?hp (fun _ hk => hk) trivial (Below.refl _ _) (Nat.le_refl _) (by simp) ?_; (case hd => rfl); (case hg => rfl); (case hr => first | (go_simp; done) | (go_simp; rfl)); (case hp => exact (Reps.none _ _))
         intro v249 w63 ho64 hb hg_ hnew_
         clear hg_ hnew_
         (first | rw [← Ny248.out] at ho64 | (simp only [Int.reduceToNat] at ho64; rw [← Ny248.out] at ho64))
         have HO250 := Aside0.mk (Kd.R_lower (Kd.R_new' ho64 (Kd.R_lt (zR HO_3))) (keep_size (w := w) (g := g) (row := none) (zH HK)))
         replace HO_3 := Aside0.mk (Kd.R_elder' (zR HO_3) (Kd.R_base ho64) hb)
         replace HR254 := Aside0.mk (Kd.C_below (by repeat (first | (with_reducible exact HR254.out) | (with_reducible refine Kd.C_alloc ?_ _) | (with_reducible refine Kd.C_drewN ?_ _) | (with_reducible refine Kd.C_drew ?_) | exact HR254.out)) hb)
         replace HR261 := Aside0.mk (Kd.C_below (by repeat (first | (with_reducible exact HR261.out) | (with_reducible refine Kd.C_alloc ?_ _) | (with_reducible refine Kd.C_drewN ?_ _) | (with_reducible refine Kd.C_drew ?_) | exact HR261.out)) hb)
         replace HK := Aside0.mk (KeepBut.trans (zH HK) (KeepBut.of_below hb g none) (.inl rfl))
         replace HB := Aside0.mk (below_step (by repeat (first | (with_reducible first | exact HB.out | apply below_alloc | apply pw_below_drewN | apply below_drew1 | refine below_set ?_ (IsS63.ge HI0.out)) | exact HB.out)) hb)
         replace HI0 := Aside0.mk (IsS63.below (spec_l10Draw.zI63 HI0) hb)
         clear hb ho64
         refine hK.out _ _ trivial (fun hHeld => ?_)
         clear hK K
         refine norm_ (a' := ?_) ?_ ?_
         rotate_left
         ·show Act.put _ (some 41) _ = _
          simp only [Act.put, List.setIfInBounds_toArray, List.set_cons_zero, List.set_cons_succ, i64_w, i32_w]
          rfl
         refine one_ (i := 3) (N := some 44) (bm 8 63) rfl rfl (one_of HT_.out (by kernel_rfl)) (by decide) (fun K hK => ?_)
         refine Kd.R_append_rows_step k43 w.heap.size (by rfl) (.tmp 41) (.tmp 43) 24 43 (.agg #[(.int .i64 0), (.int .i64 0), (.bool false)]) 24 rfl Try.underlying24 info43 rfl (by decide) (by omega) v249 y248 y251 _ _ _ (fun k_ => some k_ ≠ (.slice Ao58 x3_1.length co58 : Value).ownBlock) (fun _ => False) rfl rfl ?aO ?aR (fun _ _ h => h) (fun _ h => h.elim) ?aF (Below.refl _ _) ?aS ?aL ?_
         (case aR => repeat (first | exact (by repeat (first | (with_reducible exact HR254.out) | (with_reducible refine Kd.C_alloc ?_ _) | (with_reducible refine Kd.C_drewN ?_ _) | (with_reducible refine Kd.C_drew ?_) | exact HR254.out)) | (with_reducible refine Kd.C_alloc ?_ _) | (with_reducible refine Kd.C_drewN ?_ _) | (with_reducible refine Kd.C_drew ?_)))
         (case aF => exact (fun k_ hk => Kd.fresh' (Kd.R_lt (zR HO_3)) k_ hk))
         (case aO => exact (by (with_reducible repeat (first | apply Kd.R_alloc | apply Kd.R_drewN | apply Kd.R_drew)); exact Kd.R_mono HO250.out (fun _ hk => hk.2)))
         (case aS => exact (keep_size (w := w) (g := g) (row := none) (zH HK)))
         (case aL => have := LMc55.out; omega)
         intro v256 w65 ho hb hg hat
         rw [← Ny255.out] at ho
         replace HB := Aside0.mk (below_weaken (by repeat (first | (with_reducible first | exact HB.out | apply below_alloc | apply pw_below_drewN | apply below_drew1 | refine below_set ?_ (IsS63.ge HI0.out)) | exact HB.out)) HL.out hb)
         replace HI0 := Aside0.mk (IsS63.grown (spec_l10Draw.zI63 HI0) hg (IsS63.own_ne HI0.out HO250.out (by decide)))
         replace HK := Aside0.mk (KeepBut.trans (zH HK) (KeepBut.of_grown hg g) (Kd.R_base2 HO250.out))
         replace HR254 := Aside0.mk ((show Kd.C k43 w65 Ao58 y251.length y251 from by rw [Ny251.out]; exact Kd.C_take (m := 1) ((Kd.R_reads' (Kd.R_after (ok := (fun _ => True)) (zR HO_3) hg hat)).2.2) KL61.out))
         replace HR261 := Aside0.mk ((show Kd.C k43 w65 A62 y258.length y258 from by rw [Ny258.out, KA62.out]; exact Kd.C_drop (m := 2) (c := co58) ((Kd.R_reads' (Kd.R_after (ok := (fun _ => True)) (zR HO_3) hg hat)).2.2) KL62.out ((Kd.R_reads' (Kd.R_after (ok := (fun _ => True)) (zR HO_3) hg hat)).2.1)))
         replace HO_3 := Aside0.mk (Kd.R_after (ok := (fun _ => True)) (zR HO_3) hg hat)
         have HO257 := Aside0.mk (ho)
         clear HO250
         clear ho hb hg hat
         refine hK.out _ _ trivial (fun hHeld => ?_)
         clear hK K
         refine norm_ (a' := ?_) ?_ ?_
         rotate_left
         ·show Act.put _ (some 44) _ = _
          simp only [Act.put, List.setIfInBounds_toArray, List.set_cons_zero, List.set_cons_succ, i64_w, i32_w]
          rfl
         refine one_ (i := 6) (N := some 47) (bm 8 127) rfl rfl (one_of HT_.out (by kernel_rfl)) (by decide) (fun K hK => ?_)
         refine Kd.R_append_rows_step k43 w.heap.size (by rfl) (.tmp 44) (.tmp 46) 24 43 (.agg #[(.int .i64 0), (.int .i64 0), (.bool false)]) 24 rfl Try.underlying24 info43 rfl (by decide) (by omega) v256 y255 y258 _ _ _ (fun k_ => some k_ ≠ (.slice Ao58 x3_1.length co58 : Value).ownBlock) (fun _ => False) rfl rfl ?aO ?aR (fun _ _ h => h) (fun _ h => h.elim) ?aF (Below.refl _ _) ?aS ?aL ?_
         (case aR => repeat (first | exact (by repeat (first | (with_reducible exact HR261.out) | (with_reducible refine Kd.C_alloc ?_ _) | (with_reducible refine Kd.C_drewN ?_ _) | (with_reducible refine Kd.C_drew ?_) | exact HR261.out)) | (with_reducible refine Kd.C_alloc ?_ _) | (with_reducible refine Kd.C_drewN ?_ _) | (with_reducible refine Kd.C_drew ?_)))
         (case aF => exact (fun k_ hk => Kd.fresh' (Kd.R_lt (zR HO_3)) k_ hk))
         (case aO => exact (zR HO257))
         (case aS => exact (keep_size (w := w) (g := g) (row := none) (zH HK)))
         (case aL => have := LMc57.out; omega)
         intro v263 w66 ho hb hg hat
         rw [← Ny262.out] at ho
         replace HB := Aside0.mk (below_weaken (by repeat (first | (with_reducible first | exact HB.out | apply below_alloc | apply pw_below_drewN | apply below_drew1 | refine below_set ?_ (IsS63.ge HI0.out)) | exact HB.out)) HL.out hb)
         replace HI0 := Aside0.mk (IsS63.grown (spec_l10Draw.zI63 HI0) hg (IsS63.own_ne HI0.out HO257.out (by decide)))
         replace HK := Aside0.mk (KeepBut.trans (zH HK) (KeepBut.of_grown hg g) (Kd.R_base2 HO257.out))
         replace HR254 := Aside0.mk ((show Kd.C k43 w66 Ao58 y251.length y251 from by rw [Ny251.out]; exact Kd.C_take (m := 1) ((Kd.R_reads' (Kd.R_after (ok := (fun _ => True)) (zR HO_3) hg hat)).2.2) KL61.out))
         replace HR261 := Aside0.mk ((show Kd.C k43 w66 A62 y258.length y258 from by rw [Ny258.out, KA62.out]; exact Kd.C_drop (m := 2) (c := co58) ((Kd.R_reads' (Kd.R_after (ok := (fun _ => True)) (zR HO_3) hg hat)).2.2) KL62.out ((Kd.R_reads' (Kd.R_after (ok := (fun _ => True)) (zR HO_3) hg hat)).2.1)))
         replace HO_3 := Aside0.mk (Kd.R_after (ok := (fun _ => True)) (zR HO_3) hg hat)
         have HO264 := Aside0.mk (ho)
         clear HO257
         clear ho hb hg hat
         refine hK.out _ _ trivial (fun hHeld => ?_)
         clear hK K
         refine norm_ (a' := ?_) ?_ ?_
         rotate_left
         ·show Act.put _ (some 47) _ = _
          simp only [Act.put, List.setIfInBounds_toArray, List.set_cons_zero, List.set_cons_succ, i64_w, i32_w]
          rfl
         refine pU 7 (some 3) (bm 8 255) HT_ rfl rfl ?_
         refine done_ (done_of HT_.out (by kernel_rfl)) ?_
         try clear hHeld
         try go_wp2
         go_ret
         exact ⟨_, zE, by (with_reducible repeat (first | apply Kd.R_alloc | apply Kd.R_drewN | apply Kd.R_drew)); exact Kd.R_mono HO264.out (fun _ hk => trivial), spec_l10Draw.zI63 HI0, by repeat (first | (with_reducible first | exact HB.out | apply below_alloc | apply pw_below_drewN | apply below_drew1 | refine below_set ?_ (IsS63.ge HI0.out)) | exact HB.out), zH HK⟩
        ·replace c53 := Bool.eq_false_iff.mpr c53
         subst c53
         have H1 : (some (x3_1, t246, t247)) = some (r1, r2, r3) := by rw [if_neg (show ¬ (false = true) by decide)] at H; exact H
         clear H
         have H := H1
         clear H1
         simp only [Option.some.injEq, Prod.mk.injEq] at H
         obtain ⟨rfl, rfl, rfl⟩ := H
         obtain ⟨Ao67, co67, eo67⟩ := Kd.R_slice HO_3.out
         subst eo67
         go_wp2_with (first | (go_at_call 53; (with_reducible refine (spec_l1Once.calls g s0_0 x1001_11 x1002_11 3 false t246 t247 w0 _ ?side1 ?side2 A52.out).mono ?_); (case side1 => exact spec_l10Draw.zI63 HI0); (case side2 => repeat (first | (with_reducible first | exact HB.out | apply below_alloc | apply pw_below_drewN | apply below_drew1 | refine below_set ?_ (IsS63.ge HI0.out)) | exact HB.out)); rintro e w68 ⟨rfl, hi, hb, hk⟩; replace HO_3 := Aside0.mk (Kd.R_mono (Kd.R_keep (IsS63.apart (show IsS63 w0 _ g s0_0 x1001_11 x1002_11 from spec_l10Draw.zI63 HI0) (zR HO_3) (by decide)) hk (fun _ h => h.2)) (fun _ h => h.1)); replace HK := Aside0.mk (KeepBut.trans (zH HK) hk (.inl rfl)); replace HB := Aside0.mk (hb); replace HI0 := Aside0.mk (hi); (try clear hb)))
         go_ret
         exact ⟨_, zE, by (with_reducible repeat (first | apply Kd.R_alloc | apply Kd.R_drewN | apply Kd.R_drew)); exact HO_3.out, spec_l10Draw.zI63 HI0, by repeat (first | (with_reducible first | exact HB.out | apply below_alloc | apply pw_below_drewN | apply below_drew1 | refine below_set ?_ (IsS63.ge HI0.out)) | exact HB.out), zH HK⟩
       ·rw [if_neg c51] at H
        have c51b0 : decide (2 < (x3_1.length : Int)) = false := decide_eq_false c51
        have c51b1 : decide (2 < x3_1.length) = false := decide_eq_false (by omega)
        clear c51
        simp only [Option.some.injEq, Prod.mk.injEq] at H
        obtain ⟨rfl, rfl, rfl⟩ := H
        obtain ⟨Ao69, co69, eo69⟩ := Kd.R_slice HO_3.out
        subst eo69
        go_wp2
        go_ret
        exact ⟨_, zE, by (with_reducible repeat (first | apply Kd.R_alloc | apply Kd.R_drewN | apply Kd.R_drew)); exact HO_3.out, spec_l10Draw.zI63 HI0, by repeat (first | (with_reducible first | exact HB.out | apply below_alloc | apply pw_below_drewN | apply below_drew1 | refine below_set ?_ (IsS63.ge HI0.out)) | exact HB.out), zH HK⟩

/-! ### spec_l1Int: function 41 -/
def spec_l1Int.f (s0_0 : List Int) (s0_1 : Int) (s0_2 : Int) (l1 : List Int) : Option (Int × Int × Int) := (spec_l1Below.f s0_0 s0_1 s0_2 (l1.length : Int)).bind fun bt265 => (if 0 ≤ bt265.1 then (if bt265.1 < (l1.length : Int) then (some (rd l1 bt265.1, bt265.2.1, bt265.2.2)) else (none)) else (none))
set_option maxHeartbeats 8000000 in
set_option maxRecDepth 100000 in
theorem spec_l1Int.calls (g : Nat) (s0_0 : List Int) (s0_1 : Int) (s0_2 : Int) (A1 : Option Addr) (c1 : Nat) (l1 : List Int) (r1 : Int) (r2 : Int) (r3 : Int) (w0 w : World) (hI : IsS63 w0 w g s0_0 s0_1 s0_2) (hB : Below w0.heap.size w0 w) (hr1 : Kd.C (Kd.int .i64) w A1 l1.length l1) (hc1 : l1.length ≤ c1) (hf1 : ∀ ad, A1 = some ad → 0 < l1.length → ad.block ≠ g) (h : spec_l1Int.f s0_0 s0_1 s0_2 l1 = some (r1, r2, r3)) :
  Calls Try.prog 41 #[.pointer (some ⟨g, 0, none⟩), .slice A1 l1.length c1] w fun e w' => e = .returned (.int .i64 r1) ∧ IsS63 w0 w' g s0_0 r2 r3 ∧ Below w0.heap.size w0 w' ∧ KeepBut w w' g none := by
 have HR1 := Aside0.mk hr1
 have HC1 := Aside0.mk hc1
 clear hr1 hc1
 have HI0 := Aside0.mk hI
 have HK := Aside0.mk (KeepBut.refl w g none)
 have HL := Aside0.mk hB.size
 clear hI
 have HW0 := Aside0.mk hB.size
 have HB := Aside0.mk hB
 clear hB
 have H : ((spec_l1Below.f s0_0 s0_1 s0_2 (l1.length : Int)).bind fun bt265 => (if 0 ≤ bt265.1 then (if bt265.1 < (l1.length : Int) then (some (rd l1 bt265.1, bt265.2.1, bt265.2.2)) else (none)) else (none))) = some (r1, r2, r3) := h
 clear h
 replace H := Option.bind_eq_some_iff.mp H
 obtain ⟨⟨t265, t266, t267⟩, A30, H⟩ := H
 replace H : (if 0 ≤ t265 then (if t265 < (l1.length : Int) then (some (rd l1 t265, t266, t267)) else (none)) else (none)) = some (r1, r2, r3) := H
 have A3 := Aside0.mk A30
 clear A30
 by_cases c4 : 0 ≤ t265
 ·rw [if_pos c4] at H
  have c4b0 : decide (0 ≤ t265) = true := decide_eq_true c4
  clear c4
  obtain ⟨c5, H⟩ := ifS H
  have c5b0 : decide (t265 < (l1.length : Int)) = true := decide_eq_true c5
  clear c5
  simp only [Option.some.injEq, Prod.mk.injEq] at H
  obtain ⟨rfl, rfl, rfl⟩ := H
  go_enter Try.func41, Try.ntmps41
  go_wp2_with (first | ((with_reducible refine gate_callee (f := 35) rfl ?_); refine goesL_ (some 9) rfl rfl Try.func35 (by kernel_rfl) rfl #[.pointer (some ⟨g, 0, none⟩), .int .i64 (l1.length : Int)] rfl zG ?_; (with_reducible refine (spec_l1Below.calls g s0_0 s0_1 s0_2 (l1.length : Int) t265 t266 t267 w0 _ ?side1 ?side2 A3.out).mono ?_); (case side1 => repeat (first | (with_reducible first | exact HI0.out | apply IsS63.alloc | apply IsS63.drewN | apply IsS63.drew | apply IsS63.set_1 | apply IsS63.set_2) | exact HI0.out)); (case side2 => repeat (first | (with_reducible first | exact HB.out | apply below_alloc | apply pw_below_drewN | apply below_drew1 | refine below_set ?_ (IsS63.ge HI0.out)) | exact HB.out)); rintro e w6 ⟨rfl, hi, hb, hk⟩; refine ⟨_, rfl, ?_⟩; replace HK := Aside0.mk (KeepBut.trans (zH HK) hk (.inl rfl)); replace HB := Aside0.mk (hb); replace HI0 := Aside0.mk (hi); (try clear hb); have p268 : 0 ≤ (t265 : Int) := zD; have q268 : t265 < (l1.length : Int) := zD; obtain ⟨ad268, e268, hx268_0⟩ := Kd.at_int HR1.out t265 p268 q268; cases e268; replace hx268_0 := keep_cell HK.out hx268_0 (by first | (rw [add_block]; exact hf1 _ rfl (by omega)) | exact hf1 _ rfl (by omega) | exact hf1 ad268 rfl (by omega)); replace p268 := eq_true p268; replace q268 := eq_true q268))
  go_ret
  exact ⟨zE, by repeat (first | (with_reducible first | exact HI0.out | apply IsS63.alloc | apply IsS63.drewN | apply IsS63.drew | apply IsS63.set_1 | apply IsS63.set_2) | exact HI0.out), by repeat (first | (with_reducible first | exact HB.out | apply below_alloc | apply pw_below_drewN | apply below_drew1 | refine below_set ?_ (IsS63.ge HI0.out)) | exact HB.out), zH HK⟩
 ·rw [if_neg c4] at H
  exact absurd H (by simp)

end Go.Proofs.Ytgbfbdeeaogigaa.PFnRegistry
