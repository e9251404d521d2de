-- WRITTEN by pp.py, this session's own wrapper around the print; not trusted: Lean checks it
import Derived.Test.YtljoejddjendbaaPFnExactDecodeExtsx0
import Derived.Test.YtljoejddjendbaaPFnExactDecodeExtsx1
import Derived.Test.YtljoejddjendbaaPFnExactDecodeExtsx2
import Derived.Test.YtljoejddjendbaaPFnExactDecodeExtsx3
import Derived.Test.YtljoejddjendbaaPFnExactDecodeExtsx5
namespace Go.Proofs.Ytljoejddjendbaa.PFnExactDecodeExts
open Go.RowKit Go.Proofs.Ytljoejddjendbaa.Hw Go.Proofs.YtljoejddjendbaaW.PrintWords Go.Proofs.YtljoejddjendbaaW.PrintLast Go.Proofs.YtljoejddjendbaaW.PrintMore
attribute [local go_sem] max2_int min2_int max_two min_two max_three min_three max_four min_four   -- for this text's walks alone
set_option linter.unusedVariables false
set_option linter.unusedSimpArgs false
set_option linter.unusedSectionVars false

/-! ### laws_FnExactDecodeExts: function 11 -/
def laws_FnExactDecodeExts.f (k : Nat) (l0 : List Int) : Option (Bool) := if (l0.length : Int) > 1048576 then (some true) else ((laws_toIntS.f k l0).bind fun t189 => ((spec_DecodeExts.f k t189).bind fun bt192 => ((laws_toIntS.f k l0).bind fun t196 => ((impl_DecodeExts.f k t196).bind fun bt199 => ((laws_eqExtS.f k bt199.1 bt192.1).bind fun t203 => (if t203 = true then (if (bt199.2 != bt192.2) = true then (some false) else ((laws_toIntS.f k l0).bind fun t204 => ((laws_eqIntS.f k t196 t204).bind fun t207 => (if t207 = true then ((laws_markIntS.f k t196 1).bind fun bt208 => (if bt208.1 < 0 then (some false) else ((laws_eqExtS.f k bt199.1 bt192.1).bind fun t210 => (if t210 = true then ((laws_markExtS.f k bt199.1 1).bind fun bt211 => ((laws_heldExtS.f k bt211.2 1).bind fun t213 => (if t213 < 0 then (some false) else (if t213 = bt211.1 then ((laws_toIntS.f k l0).bind fun t214 => ((impl_DecodeExts.f k t214).bind fun bt217 => ((laws_eqExtS.f k bt217.1 bt192.1).bind fun t221 => (if t221 = true then (if (bt217.2 != bt192.2) = true then (some false) else ((laws_heldExtS.f k bt211.2 1).bind fun t222 => (if t222 < 0 then (some false) else (if t222 = bt211.1 then (some true) else (some false))))) else (some false))))) else (some false))))) else (some false))))) else (some false))))) else (some false)))))))
set_option maxHeartbeats 8000000 in
set_option maxRecDepth 100000 in
theorem laws_FnExactDecodeExts.calls (k : Nat) (A0 : Option Addr) (c0 : Nat) (l0 : List Int) (r : Bool) (w : World) (hr0 : Kd.C (Kd.int .i64) w A0 l0.length l0) (hc0 : l0.length ≤ c0) (ht_ : r = true) (h : laws_FnExactDecodeExts.f k l0 = some r) :
  Calls Try.prog 11 #[.slice A0 l0.length c0] w fun e w' => e = .returned (.bool r) ∧ Below w.heap.size w w' := by
 subst ht_
 have HR0 := Aside0.mk hr0
 have HC0 := Aside0.mk hc0
 clear hr0 hc0
 have H : (if (l0.length : Int) > 1048576 then (some true) else ((laws_toIntS.f k l0).bind fun t189 => ((spec_DecodeExts.f k t189).bind fun bt192 => ((laws_toIntS.f k l0).bind fun t196 => ((impl_DecodeExts.f k t196).bind fun bt199 => ((laws_eqExtS.f k bt199.1 bt192.1).bind fun t203 => (if t203 = true then (if (bt199.2 != bt192.2) = true then (some false) else ((laws_toIntS.f k l0).bind fun t204 => ((laws_eqIntS.f k t196 t204).bind fun t207 => (if t207 = true then ((laws_markIntS.f k t196 1).bind fun bt208 => (if bt208.1 < 0 then (some false) else ((laws_eqExtS.f k bt199.1 bt192.1).bind fun t210 => (if t210 = true then ((laws_markExtS.f k bt199.1 1).bind fun bt211 => ((laws_heldExtS.f k bt211.2 1).bind fun t213 => (if t213 < 0 then (some false) else (if t213 = bt211.1 then ((laws_toIntS.f k l0).bind fun t214 => ((impl_DecodeExts.f k t214).bind fun bt217 => ((laws_eqExtS.f k bt217.1 bt192.1).bind fun t221 => (if t221 = true then (if (bt217.2 != bt192.2) = true then (some false) else ((laws_heldExtS.f k bt211.2 1).bind fun t222 => (if t222 < 0 then (some false) else (if t222 = bt211.1 then (some true) else (some false))))) else (some false))))) else (some false))))) else (some false))))) else (some false))))) else (some false)))))))) = some true := h
 clear h
 by_cases c1 : (l0.length : Int) > 1048576
 ·rw [if_pos c1] at H
  have f2 : decide (1048576 < (l0.length : Int)) = true := decide_eq_true c1
  have f3 : decide (1048576 < l0.length) = true := decide_eq_true (by omega)
  have Cc1 := Aside0.mk c1
  clear c1
  clear H
  go_enter Try.func11, Try.ntmps11
  go_wp2
  go_ret
  exact ⟨rfl, (Below.refl w.heap.size w)⟩
 ·rw [if_neg c1] at H
  have f4 : decide (1048576 < (l0.length : Int)) = false := decide_eq_false c1
  have f5 : decide (1048576 < l0.length) = false := decide_eq_false (by omega)
  have Cc1 := Aside0.mk c1
  clear c1
  obtain ⟨t189, A6, H⟩ := Option.bind_eq_some_iff.mp H
  have A6 := Aside0.mk A6
  obtain ⟨⟨t192, t193⟩, A7, H⟩ := Option.bind_eq_some_iff.mp H
  dsimp only at H A7
  have A7 := Aside0.mk A7
  obtain ⟨t196, A8, H⟩ := Option.bind_eq_some_iff.mp H
  have A8 := Aside0.mk A8
  obtain ⟨⟨t199, t200⟩, A9, H⟩ := Option.bind_eq_some_iff.mp H
  dsimp only at H A9
  have A9 := Aside0.mk A9
  obtain ⟨t203, A10, H⟩ := Option.bind_eq_some_iff.mp H
  have A10 := Aside0.mk A10
  by_cases c11 : t203 = true
  ·rw [if_pos c11] at H
   obtain rfl : t203 = true := by simpa using c11
   clear c11
   by_cases c12 : (t200 != t193) = true
   ·rw [if_pos c12] at H
    exact absurd H (by simp)
   ·rw [if_neg c12] at H
    have f13 : (t200 != t193) = false := by simpa using c12
    (try have f14 : decide (t200 = t193) = true := by simpa using c12)
    (try have f15 : (t200 == t193) = true := by simpa using c12)
    have Cc12 := Aside0.mk c12
    clear c12
    obtain ⟨t204, A16, H⟩ := Option.bind_eq_some_iff.mp H
    have A16 := Aside0.mk A16
    obtain ⟨t207, A17, H⟩ := Option.bind_eq_some_iff.mp H
    have A17 := Aside0.mk A17
    by_cases c18 : t207 = true
    ·rw [if_pos c18] at H
     obtain rfl : t207 = true := by simpa using c18
     clear c18
     obtain ⟨⟨t208, t209⟩, A19, H⟩ := Option.bind_eq_some_iff.mp H
     dsimp only at H A19
     have A19 := Aside0.mk A19
     by_cases c20 : t208 < 0
     ·rw [if_pos c20] at H
      exact absurd H (by simp)
     ·rw [if_neg c20] at H
      have f21 : decide (t208 < 0) = false := decide_eq_false c20
      have Cc20 := Aside0.mk c20
      clear c20
      obtain ⟨t210, A22, H⟩ := Option.bind_eq_some_iff.mp H
      have A22 := Aside0.mk A22
      by_cases c23 : t210 = true
      ·rw [if_pos c23] at H
       obtain rfl : t210 = true := by simpa using c23
       clear c23
       obtain ⟨⟨t211, t212⟩, A24, H⟩ := Option.bind_eq_some_iff.mp H
       dsimp only at H A24
       have A24 := Aside0.mk A24
       obtain ⟨t213, A25, H⟩ := Option.bind_eq_some_iff.mp H
       have A25 := Aside0.mk A25
       by_cases c26 : t213 < 0
       ·rw [if_pos c26] at H
        exact absurd H (by simp)
       ·rw [if_neg c26] at H
        have f27 : decide (t213 < 0) = false := decide_eq_false c26
        have Cc26 := Aside0.mk c26
        clear c26
        by_cases c28 : t213 = t211
        ·rw [if_pos c28] at H
         have f29 : (t213 == t211) = true := beq_iff_eq.mpr c28
         have f30 : (t213 != t211) = false := bne_eq_false_iff_eq.mpr c28
         have Cc28 := Aside0.mk c28
         clear c28
         obtain ⟨t214, A31, H⟩ := Option.bind_eq_some_iff.mp H
         have A31 := Aside0.mk A31
         obtain ⟨⟨t217, t218⟩, A32, H⟩ := Option.bind_eq_some_iff.mp H
         dsimp only at H A32
         have A32 := Aside0.mk A32
         obtain ⟨t221, A33, H⟩ := Option.bind_eq_some_iff.mp H
         have A33 := Aside0.mk A33
         by_cases c34 : t221 = true
         ·rw [if_pos c34] at H
          obtain rfl : t221 = true := by simpa using c34
          clear c34
          by_cases c35 : (t218 != t193) = true
          ·rw [if_pos c35] at H
           exact absurd H (by simp)
          ·rw [if_neg c35] at H
           have f36 : (t218 != t193) = false := by simpa using c35
           (try have f37 : decide (t218 = t193) = true := by simpa using c35)
           (try have f38 : (t218 == t193) = true := by simpa using c35)
           have Cc35 := Aside0.mk c35
           clear c35
           obtain ⟨t222, A39, H⟩ := Option.bind_eq_some_iff.mp H
           have A39 := Aside0.mk A39
           by_cases c40 : t222 < 0
           ·rw [if_pos c40] at H
            exact absurd H (by simp)
           ·rw [if_neg c40] at H
            have f41 : decide (t222 < 0) = false := decide_eq_false c40
            have Cc40 := Aside0.mk c40
            clear c40
            by_cases c42 : t222 = t211
            ·rw [if_pos c42] at H
             have f43 : (t222 == t211) = true := beq_iff_eq.mpr c42
             have f44 : (t222 != t211) = false := bne_eq_false_iff_eq.mpr c42
             have Cc42 := Aside0.mk c42
             clear c42
             clear H
             go_enter Try.func11, Try.ntmps11
             go_wp2_with fail
             refine calls_of_args (args' := #[.slice A0 l0.length c0]) (by first | rfl | rfl) ?_
             refine (laws_toIntS.calls (k := k) (l0 := l0) (hr0 := Kd.C_below HR0.out (Below.refl w.heap.size w)) (hc0 := HC0.out) (r := t189) (w := w) (h := A6.out)).mono ?_
             rintro e w45 ⟨v190, rfl, ho0, hb⟩
             have s46 := Aside0.mk hb.size
             have HO48 := Aside0.mk (Kd.R_lower (Kd.R_mono (ok' := fun k_ => (w.heap.size ≤ k_ ∧ k_ < w45.heap.size)) (Kd.R_bound ho0) (fun k_ hk_ => by have h1_ := hk_.2.1; have h2_ := hk_.2.2.1; omega)) (by have := s46.out; omega : w.heap.size ≤ w.heap.size))
             clear ho0
             obtain ⟨Ao49, co50, eq_⟩ := Kd.R_slice HO48.out
             subst eq_
             have HB47 := Aside0.mk (below_trans (Below.refl w.heap.size w) hb)
             clear hb
             go_wp2_with fail
             refine calls_of_args (args' := #[.slice Ao49 t189.length co50]) (by first | rfl | rfl) ?_
             refine (spec_DecodeExts.calls (k := k) (l0 := t189) (A0 := Ao49) (c0 := co50) (hr0 := (Kd.R_reads' HO48.out).2.2) (hc0 := by have h_ := Kd.R_reads' HO48.out; omega) (r1 := t192) (r2 := t193) (w := w45) (h := A7.out)).mono ?_
             rintro e w51 ⟨v194, rfl, ho0, hb⟩
             have s52 := Aside0.mk hb.size
             have HO54 := Aside0.mk (Kd.R_below HO48.out hb)
             clear HO48
             have HO55 := Aside0.mk (Kd.S_lower (Kd.S_mono (ok' := fun k_ => (w45.heap.size ≤ k_ ∧ k_ < w51.heap.size)) (Kd.S_bound ho0) (fun k_ hk_ => by have h1_ := hk_.2.1; have h2_ := hk_.2.2.1; omega)) (by have := s46.out; have := s52.out; omega : w.heap.size ≤ w45.heap.size))
             clear ho0
             obtain ⟨Ao56, co57, eq_⟩ := Kd.S_slice HO55.out
             subst eq_
             have HB53 := Aside0.mk (below_trans HB47.out hb)
             clear hb
             go_wp2_with fail
             refine calls_of_args (args' := #[.slice A0 l0.length c0]) (by first | rfl | rfl) ?_
             refine (laws_toIntS.calls (k := k) (l0 := l0) (hr0 := Kd.C_below HR0.out HB53.out) (hc0 := HC0.out) (r := t196) (w := w51) (h := A8.out)).mono ?_
             rintro e w58 ⟨v197, rfl, ho0, hb⟩
             have s59 := Aside0.mk hb.size
             have HO61 := Aside0.mk (Kd.R_below HO54.out hb)
             clear HO54
             have HO62 := Aside0.mk (Kd.S_below HO55.out hb)
             clear HO55
             have HO63 := Aside0.mk (Kd.R_lower (Kd.R_mono (ok' := fun k_ => (w51.heap.size ≤ k_ ∧ k_ < w58.heap.size)) (Kd.R_bound ho0) (fun k_ hk_ => by have h1_ := hk_.2.1; have h2_ := hk_.2.2.1; omega)) (by have := s46.out; have := s52.out; have := s59.out; omega : w.heap.size ≤ w51.heap.size))
             clear ho0
             obtain ⟨Ao64, co65, eq_⟩ := Kd.R_slice HO63.out
             subst eq_
             have HB60 := Aside0.mk (below_trans HB53.out hb)
             clear hb
             go_wp2_with fail
             refine calls_of_args (args' := #[.slice Ao64 t196.length co65]) (by first | rfl | rfl) ?_
             refine (impl_DecodeExts.calls (k := k) (l0 := t196) (A0 := Ao64) (c0 := co65) (hr0 := (Kd.R_reads' HO63.out).2.2) (hc0 := by have h_ := Kd.R_reads' HO63.out; omega) (r1 := t199) (r2 := t200) (w := w58) (h := A9.out)).mono ?_
             rintro e w66 ⟨v201, rfl, ho0, hb⟩
             have s67 := Aside0.mk hb.size
             have HO69 := Aside0.mk (Kd.R_below HO61.out hb)
             clear HO61
             have HO70 := Aside0.mk (Kd.S_below HO62.out hb)
             clear HO62
             have HO71 := Aside0.mk (Kd.R_below HO63.out hb)
             clear HO63
             have HO72 := Aside0.mk (Kd.S_lower (Kd.S_mono (ok' := fun k_ => (w58.heap.size ≤ k_ ∧ k_ < w66.heap.size)) (Kd.S_bound ho0) (fun k_ hk_ => by have h1_ := hk_.2.1; have h2_ := hk_.2.2.1; omega)) (by have := s46.out; have := s52.out; have := s59.out; have := s67.out; omega : w.heap.size ≤ w58.heap.size))
             clear ho0
             obtain ⟨Ao73, co74, eq_⟩ := Kd.S_slice HO72.out
             subst eq_
             have HB68 := Aside0.mk (below_trans HB60.out hb)
             clear hb
             go_wp2_with fail
             refine calls_of_args (args' := #[.slice Ao73 t199.length co74, .slice Ao56 t192.length co57]) (by first | rfl | rfl) ?_
             refine (laws_eqExtS.calls (k := k) (l0 := t199) (A0 := Ao73) (c0 := co74) (hr0 := (Kd.S_reads' HO72.out).2.2) (hc0 := by have h_ := Kd.S_reads' HO72.out; omega) (l1 := t192) (A1 := Ao56) (c1 := co57) (hr1 := (Kd.S_reads' HO70.out).2.2) (hc1 := by have h_ := Kd.S_reads' HO70.out; omega) (r := true) (w := w66) (h := A10.out)).mono ?_
             rintro e w75 ⟨rfl, hb⟩
             have s76 := Aside0.mk hb.size
             have HO78 := Aside0.mk (Kd.R_below HO69.out hb)
             clear HO69
             have HO79 := Aside0.mk (Kd.S_below HO70.out hb)
             clear HO70
             have HO80 := Aside0.mk (Kd.R_below HO71.out hb)
             clear HO71
             have HO81 := Aside0.mk (Kd.S_below HO72.out hb)
             clear HO72
             have HB77 := Aside0.mk (below_trans HB68.out hb)
             clear hb
             go_wp2_with fail
             refine calls_of_args (args' := #[.slice A0 l0.length c0]) (by first | rfl | rfl) ?_
             refine (laws_toIntS.calls (k := k) (l0 := l0) (hr0 := Kd.C_below HR0.out HB77.out) (hc0 := HC0.out) (r := t204) (w := w75) (h := A16.out)).mono ?_
             rintro e w82 ⟨v205, rfl, ho0, hb⟩
             have s83 := Aside0.mk hb.size
             have HO85 := Aside0.mk (Kd.R_below HO78.out hb)
             clear HO78
             have HO86 := Aside0.mk (Kd.S_below HO79.out hb)
             clear HO79
             have HO87 := Aside0.mk (Kd.R_below HO80.out hb)
             clear HO80
             have HO88 := Aside0.mk (Kd.S_below HO81.out hb)
             clear HO81
             have HO89 := Aside0.mk (Kd.R_lower (Kd.R_mono (ok' := fun k_ => (w75.heap.size ≤ k_ ∧ k_ < w82.heap.size)) (Kd.R_bound ho0) (fun k_ hk_ => by have h1_ := hk_.2.1; have h2_ := hk_.2.2.1; omega)) (by have := s46.out; have := s52.out; have := s59.out; have := s67.out; have := s76.out; have := s83.out; omega : w.heap.size ≤ w75.heap.size))
             clear ho0
             obtain ⟨Ao90, co91, eq_⟩ := Kd.R_slice HO89.out
             subst eq_
             have HB84 := Aside0.mk (below_trans HB77.out hb)
             clear hb
             go_wp2_with fail
             refine calls_of_args (args' := #[.slice Ao64 t196.length co65, .slice Ao90 t204.length co91]) (by first | rfl | rfl) ?_
             refine (laws_eqIntS.calls (k := k) (l0 := t196) (A0 := Ao64) (c0 := co65) (hr0 := (Kd.R_reads' HO87.out).2.2) (hc0 := by have h_ := Kd.R_reads' HO87.out; omega) (l1 := t204) (A1 := Ao90) (c1 := co91) (hr1 := (Kd.R_reads' HO89.out).2.2) (hc1 := by have h_ := Kd.R_reads' HO89.out; omega) (r := true) (w := w82) (h := A17.out)).mono ?_
             rintro e w92 ⟨rfl, hd_⟩
             have hb := hd_.below
             clear hd_
             have s93 := Aside0.mk hb.size
             have HO95 := Aside0.mk (Kd.R_below HO85.out hb)
             clear HO85
             have HO96 := Aside0.mk (Kd.S_below HO86.out hb)
             clear HO86
             have HO97 := Aside0.mk (Kd.R_below HO87.out hb)
             clear HO87
             have HO98 := Aside0.mk (Kd.S_below HO88.out hb)
             clear HO88
             have HO99 := Aside0.mk (Kd.R_below HO89.out hb)
             clear HO89
             have HB94 := Aside0.mk (below_trans HB84.out hb)
             clear hb
             go_wp2_with fail
             refine calls_of_args (args' := #[.slice Ao64 t196.length co65, .int .i64 1]) (by first | rfl | rfl) ?_
             refine (laws_markIntS.calls (k := k) (l0 := t196) (P0_ := fun k_ => (w51.heap.size ≤ k_ ∧ k_ < w58.heap.size)) (u9000_ := .slice Ao64 t196.length co65) (ho0 := HO97.out) (a1 := 1) (r1 := t208) (r2 := t209) (w := w92) (w0 := w) (hB := HB94.out) (h := A19.out)).mono ?_
             rintro e w100 ⟨rfl, hy0, hb, hkp⟩
             have s101 := Aside0.mk hkp.1
             have HB102 := Aside0.mk hb
             have HO103 := Aside0.mk (Kd.R_kept HO95.out hkp (fun k_ hk_ hs_ => by have := s46.out; have := s52.out; have := s59.out; have := s67.out; have := s76.out; have := s83.out; have := s93.out; have := s101.out; omega))
             clear HO95
             have HO104 := Aside0.mk (Kd.S_kept HO96.out hkp (fun k_ hk_ hs_ => by have := s46.out; have := s52.out; have := s59.out; have := s67.out; have := s76.out; have := s83.out; have := s93.out; have := s101.out; omega))
             clear HO96
             have HO105 := Aside0.mk (Kd.S_kept HO98.out hkp (fun k_ hk_ hs_ => by have := s46.out; have := s52.out; have := s59.out; have := s67.out; have := s76.out; have := s83.out; have := s93.out; have := s101.out; omega))
             clear HO98
             have HO106 := Aside0.mk (Kd.R_kept HO99.out hkp (fun k_ hk_ hs_ => by have := s46.out; have := s52.out; have := s59.out; have := s67.out; have := s76.out; have := s83.out; have := s93.out; have := s101.out; omega))
             clear HO99
             have HO107 := Aside0.mk (Kd.R_mono (ok' := fun k_ => (w51.heap.size ≤ k_ ∧ k_ < w58.heap.size) ∨ (w92.heap.size ≤ k_ ∧ k_ < w100.heap.size)) (Kd.R_bound hy0) (fun k_ hk_ => by have h1_ := hk_.1; have h2_ := hk_.2.2.1; have := s46.out; have := s52.out; have := s59.out; have := s67.out; have := s76.out; have := s83.out; have := s93.out; have := s101.out; omega))
             clear HO97
             clear hb hkp hy0
             go_wp2_with fail
             refine calls_of_args (args' := #[.slice Ao73 t199.length co74, .slice Ao56 t192.length co57]) (by first | rfl | (rw [← (Kd.R_reads' HO107.out).1])) ?_
             refine (laws_eqExtS.calls (k := k) (l0 := t199) (A0 := Ao73) (c0 := co74) (hr0 := (Kd.S_reads' HO105.out).2.2) (hc0 := by have h_ := Kd.S_reads' HO105.out; omega) (l1 := t192) (A1 := Ao56) (c1 := co57) (hr1 := (Kd.S_reads' HO104.out).2.2) (hc1 := by have h_ := Kd.S_reads' HO104.out; omega) (r := true) (w := w100) (h := A22.out)).mono ?_
             rintro e w108 ⟨rfl, hb⟩
             have s109 := Aside0.mk hb.size
             have HO111 := Aside0.mk (Kd.R_below HO103.out hb)
             clear HO103
             have HO112 := Aside0.mk (Kd.S_below HO104.out hb)
             clear HO104
             have HO113 := Aside0.mk (Kd.R_below HO107.out hb)
             clear HO107
             have HO114 := Aside0.mk (Kd.S_below HO105.out hb)
             clear HO105
             have HO115 := Aside0.mk (Kd.R_below HO106.out hb)
             clear HO106
             have HB110 := Aside0.mk (below_trans HB102.out hb)
             clear hb
             go_wp2_with fail
             refine calls_of_args (args' := #[.slice Ao73 t199.length co74, .int .i64 1]) (by first | rfl | (rw [← (Kd.R_reads' HO113.out).1])) ?_
             refine (laws_markExtS.calls (k := k) (l0 := t199) (P0_ := fun k_ => (w58.heap.size ≤ k_ ∧ k_ < w66.heap.size)) (u9000_ := .slice Ao73 t199.length co74) (ho0 := HO114.out) (a1 := 1) (r1 := t211) (r2 := t212) (w := w108) (w0 := w) (hB := HB110.out) (h := A24.out)).mono ?_
             rintro e w116 ⟨rfl, hy0, hb, hkp⟩
             have s117 := Aside0.mk hkp.1
             have HB118 := Aside0.mk hb
             have HO119 := Aside0.mk (Kd.R_kept HO111.out hkp (fun k_ hk_ hs_ => by have := s46.out; have := s52.out; have := s59.out; have := s67.out; have := s76.out; have := s83.out; have := s93.out; have := s101.out; have := s109.out; have := s117.out; omega))
             clear HO111
             have HO120 := Aside0.mk (Kd.S_kept HO112.out hkp (fun k_ hk_ hs_ => by have := s46.out; have := s52.out; have := s59.out; have := s67.out; have := s76.out; have := s83.out; have := s93.out; have := s101.out; have := s109.out; have := s117.out; omega))
             clear HO112
             have HO121 := Aside0.mk (Kd.R_kept HO113.out hkp (fun k_ hk_ hs_ => by have := s46.out; have := s52.out; have := s59.out; have := s67.out; have := s76.out; have := s83.out; have := s93.out; have := s101.out; have := s109.out; have := s117.out; omega))
             clear HO113
             have HO122 := Aside0.mk (Kd.R_kept HO115.out hkp (fun k_ hk_ hs_ => by have := s46.out; have := s52.out; have := s59.out; have := s67.out; have := s76.out; have := s83.out; have := s93.out; have := s101.out; have := s109.out; have := s117.out; omega))
             clear HO115
             have HO123 := Aside0.mk (Kd.S_mono (ok' := fun k_ => (w58.heap.size ≤ k_ ∧ k_ < w66.heap.size) ∨ (w108.heap.size ≤ k_ ∧ k_ < w116.heap.size)) (Kd.S_bound hy0) (fun k_ hk_ => by have h1_ := hk_.1; have h2_ := hk_.2.2.1; have := s46.out; have := s52.out; have := s59.out; have := s67.out; have := s76.out; have := s83.out; have := s93.out; have := s101.out; have := s109.out; have := s117.out; omega))
             clear HO114
             clear hb hkp hy0
             go_wp2_with fail
             refine calls_of_args (args' := #[.slice Ao73 t212.length co74, .int .i64 1]) (by first | rfl | (rw [← (Kd.R_reads' HO121.out).1]) | (rw [← (Kd.S_reads' HO123.out).1])) ?_
             refine (laws_heldExtS.calls (k := k) (l0 := t212) (A0 := Ao73) (c0 := co74) (hr0 := (Kd.S_reads' HO123.out).2.2) (hc0 := by have h_ := Kd.S_reads' HO123.out; omega) (a1 := 1) (r := t213) (w := w116) (h := A25.out)).mono ?_
             rintro e w124 ⟨rfl, hd_⟩
             have hb := hd_.below
             clear hd_
             have s125 := Aside0.mk hb.size
             have HO127 := Aside0.mk (Kd.R_below HO119.out hb)
             clear HO119
             have HO128 := Aside0.mk (Kd.S_below HO120.out hb)
             clear HO120
             have HO129 := Aside0.mk (Kd.R_below HO121.out hb)
             clear HO121
             have HO130 := Aside0.mk (Kd.S_below HO123.out hb)
             clear HO123
             have HO131 := Aside0.mk (Kd.R_below HO122.out hb)
             clear HO122
             have HB126 := Aside0.mk (below_trans HB118.out hb)
             clear hb
             go_wp2_with fail
             refine calls_of_args (args' := #[.slice A0 l0.length c0]) (by first | rfl | (rw [← (Kd.R_reads' HO129.out).1]) | (rw [← (Kd.S_reads' HO130.out).1])) ?_
             refine (laws_toIntS.calls (k := k) (l0 := l0) (hr0 := Kd.C_below HR0.out HB126.out) (hc0 := HC0.out) (r := t214) (w := w124) (h := A31.out)).mono ?_
             rintro e w132 ⟨v215, rfl, ho0, hb⟩
             have s133 := Aside0.mk hb.size
             have HO135 := Aside0.mk (Kd.R_below HO127.out hb)
             clear HO127
             have HO136 := Aside0.mk (Kd.S_below HO128.out hb)
             clear HO128
             have HO137 := Aside0.mk (Kd.R_below HO129.out hb)
             clear HO129
             have HO138 := Aside0.mk (Kd.S_below HO130.out hb)
             clear HO130
             have HO139 := Aside0.mk (Kd.R_below HO131.out hb)
             clear HO131
             have HO140 := Aside0.mk (Kd.R_lower (Kd.R_mono (ok' := fun k_ => (w124.heap.size ≤ k_ ∧ k_ < w132.heap.size)) (Kd.R_bound ho0) (fun k_ hk_ => by have h1_ := hk_.2.1; have h2_ := hk_.2.2.1; omega)) (by have := s46.out; have := s52.out; have := s59.out; have := s67.out; have := s76.out; have := s83.out; have := s93.out; have := s101.out; have := s109.out; have := s117.out; have := s125.out; have := s133.out; omega : w.heap.size ≤ w124.heap.size))
             clear ho0
             obtain ⟨Ao141, co142, eq_⟩ := Kd.R_slice HO140.out
             subst eq_
             have HB134 := Aside0.mk (below_trans HB126.out hb)
             clear hb
             go_wp2_with fail
             refine calls_of_args (args' := #[.slice Ao141 t214.length co142]) (by first | rfl | (rw [← (Kd.R_reads' HO137.out).1]) | (rw [← (Kd.S_reads' HO138.out).1])) ?_
             refine (impl_DecodeExts.calls (k := k) (l0 := t214) (A0 := Ao141) (c0 := co142) (hr0 := (Kd.R_reads' HO140.out).2.2) (hc0 := by have h_ := Kd.R_reads' HO140.out; omega) (r1 := t217) (r2 := t218) (w := w132) (h := A32.out)).mono ?_
             rintro e w143 ⟨v219, rfl, ho0, hb⟩
             have s144 := Aside0.mk hb.size
             have HO146 := Aside0.mk (Kd.R_below HO135.out hb)
             clear HO135
             have HO147 := Aside0.mk (Kd.S_below HO136.out hb)
             clear HO136
             have HO148 := Aside0.mk (Kd.R_below HO137.out hb)
             clear HO137
             have HO149 := Aside0.mk (Kd.S_below HO138.out hb)
             clear HO138
             have HO150 := Aside0.mk (Kd.R_below HO139.out hb)
             clear HO139
             have HO151 := Aside0.mk (Kd.R_below HO140.out hb)
             clear HO140
             have HO152 := Aside0.mk (Kd.S_lower (Kd.S_mono (ok' := fun k_ => (w132.heap.size ≤ k_ ∧ k_ < w143.heap.size)) (Kd.S_bound ho0) (fun k_ hk_ => by have h1_ := hk_.2.1; have h2_ := hk_.2.2.1; omega)) (by have := s46.out; have := s52.out; have := s59.out; have := s67.out; have := s76.out; have := s83.out; have := s93.out; have := s101.out; have := s109.out; have := s117.out; have := s125.out; have := s133.out; have := s144.out; omega : w.heap.size ≤ w132.heap.size))
             clear ho0
             obtain ⟨Ao153, co154, eq_⟩ := Kd.S_slice HO152.out
             subst eq_
             have HB145 := Aside0.mk (below_trans HB134.out hb)
             clear hb
             go_wp2_with fail
             refine calls_of_args (args' := #[.slice Ao153 t217.length co154, .slice Ao56 t192.length co57]) (by first | rfl | (rw [← (Kd.R_reads' HO148.out).1]) | (rw [← (Kd.S_reads' HO149.out).1])) ?_
             refine (laws_eqExtS.calls (k := k) (l0 := t217) (A0 := Ao153) (c0 := co154) (hr0 := (Kd.S_reads' HO152.out).2.2) (hc0 := by have h_ := Kd.S_reads' HO152.out; omega) (l1 := t192) (A1 := Ao56) (c1 := co57) (hr1 := (Kd.S_reads' HO147.out).2.2) (hc1 := by have h_ := Kd.S_reads' HO147.out; omega) (r := true) (w := w143) (h := A33.out)).mono ?_
             rintro e w155 ⟨rfl, hb⟩
             have s156 := Aside0.mk hb.size
             have HO158 := Aside0.mk (Kd.R_below HO146.out hb)
             clear HO146
             have HO159 := Aside0.mk (Kd.S_below HO147.out hb)
             clear HO147
             have HO160 := Aside0.mk (Kd.R_below HO148.out hb)
             clear HO148
             have HO161 := Aside0.mk (Kd.S_below HO149.out hb)
             clear HO149
             have HO162 := Aside0.mk (Kd.R_below HO150.out hb)
             clear HO150
             have HO163 := Aside0.mk (Kd.R_below HO151.out hb)
             clear HO151
             have HO164 := Aside0.mk (Kd.S_below HO152.out hb)
             clear HO152
             have HB157 := Aside0.mk (below_trans HB145.out hb)
             clear hb
             go_wp2_with fail
             refine calls_of_args (args' := #[.slice Ao73 t212.length co74, .int .i64 1]) (by first | rfl | (rw [← (Kd.R_reads' HO160.out).1]) | (rw [← (Kd.S_reads' HO161.out).1])) ?_
             refine (laws_heldExtS.calls (k := k) (l0 := t212) (A0 := Ao73) (c0 := co74) (hr0 := (Kd.S_reads' HO161.out).2.2) (hc0 := by have h_ := Kd.S_reads' HO161.out; omega) (a1 := 1) (r := t222) (w := w155) (h := A39.out)).mono ?_
             rintro e w165 ⟨rfl, hd_⟩
             have hb := hd_.below
             clear hd_
             have s166 := Aside0.mk hb.size
             have HO168 := Aside0.mk (Kd.R_below HO158.out hb)
             clear HO158
             have HO169 := Aside0.mk (Kd.S_below HO159.out hb)
             clear HO159
             have HO170 := Aside0.mk (Kd.R_below HO160.out hb)
             clear HO160
             have HO171 := Aside0.mk (Kd.S_below HO161.out hb)
             clear HO161
             have HO172 := Aside0.mk (Kd.R_below HO162.out hb)
             clear HO162
             have HO173 := Aside0.mk (Kd.R_below HO163.out hb)
             clear HO163
             have HO174 := Aside0.mk (Kd.S_below HO164.out hb)
             clear HO164
             have HB167 := Aside0.mk (below_trans HB157.out hb)
             clear hb
             go_wp2
             go_ret
             exact ⟨rfl, HB167.out⟩
            ·rw [if_neg c42] at H
             exact absurd H (by simp)
         ·rw [if_neg c34] at H
          exact absurd H (by simp)
        ·rw [if_neg c28] at H
         exact absurd H (by simp)
      ·rw [if_neg c23] at H
       exact absurd H (by simp)
    ·rw [if_neg c18] at H
     exact absurd H (by simp)
  ·rw [if_neg c11] at H
   exact absurd H (by simp)


/-- The pure statement of laws_FnExactDecodeExts. -/
def laws_FnExactDecodeExts.Pure : Prop := ∀ (l0 : List Int), l0.length ≤ 9223372036854775807 → (∀ x ∈ l0, (Lit.int .i64 x).wf = true) → ∃ k, laws_FnExactDecodeExts.f k l0 = some true

end Go.Proofs.Ytljoejddjendbaa.PFnExactDecodeExts
