-- WRITTEN by pp.py, this session's own wrapper around the print; not trusted: Lean checks it
import Derived.Test.YtljoejddjendbaaPFnExactKnownOfx0
import Derived.Test.YtljoejddjendbaaPFnExactKnownOfx1
import Derived.Test.YtljoejddjendbaaPFnExactKnownOfx2
import Derived.Test.YtljoejddjendbaaPFnExactKnownOfx3
import Derived.Test.YtljoejddjendbaaPFnExactKnownOfx4
namespace Go.Proofs.Ytljoejddjendbaa.PFnExactKnownOf
open Go.RowKit Go.Proofs.Ytljoejddjendbaa.Hw Go.Proofs.YtljoejddjendbaaW.PrintWords Go.Proofs.YtljoejddjendbaaW.PrintLast Go.Proofs.YtljoejddjendbaaW.PrintMore
attribute [local go_sem] max2_int min2_int max_two min_two max_three min_three max_four min_four   -- for this text's walks alone
set_option linter.unusedVariables false
set_option linter.unusedSimpArgs false
set_option linter.unusedSectionVars false

/-! ### laws_FnExactKnownOf: function 10 -/
def laws_FnExactKnownOf.f (k : Nat) (l0 : List (S60)) (l1 : List Int) : Option (Bool) := if (l1.length : Int) > 1048576 then (some true) else ((laws_szExtS.f k l0 1048576).bind fun t176 => (if t176 < 0 then (some true) else ((laws_toExtS.f k l0).bind fun t177 => ((laws_toIntS.f k l1).bind fun t180 => ((spec_KnownOf.f k t177 t180).bind fun t183 => ((laws_toExtS.f k l0).bind fun t186 => ((laws_toIntS.f k l1).bind fun t189 => ((impl_KnownOf.f k t186 t189).bind fun t192 => ((laws_eqExtS.f k t192 t183).bind fun t195 => (if t195 = true then ((laws_toExtS.f k l0).bind fun t196 => ((laws_eqExtS.f k t186 t196).bind fun t199 => (if t199 = true then ((laws_toIntS.f k l1).bind fun t200 => ((laws_eqIntS.f k t189 t200).bind fun t203 => (if t203 = true then ((laws_markExtS.f k t186 1).bind fun bt204 => ((laws_markIntS.f k t189 bt204.1).bind fun bt206 => (if bt206.1 < 0 then (some false) else ((laws_eqExtS.f k t192 t183).bind fun t208 => (if t208 = true then ((laws_markExtS.f k t192 1).bind fun bt209 => ((laws_heldExtS.f k bt209.2 1).bind fun t211 => (if t211 < 0 then (some false) else (if t211 = bt209.1 then ((laws_toExtS.f k l0).bind fun t212 => ((laws_toIntS.f k l1).bind fun t215 => ((impl_KnownOf.f k t212 t215).bind fun t218 => ((laws_eqExtS.f k t218 t183).bind fun t221 => (if t221 = true then ((laws_heldExtS.f k bt209.2 1).bind fun t222 => (if t222 < 0 then (some false) else (if t222 = bt209.1 then (some true) else (some false)))) else (some false)))))) else (some false))))) else (some false)))))) else (some false)))) else (some false)))) else (some false)))))))))))
set_option maxHeartbeats 8000000 in
set_option maxRecDepth 100000 in
theorem laws_FnExactKnownOf.calls (k : Nat) (A0 : Option Addr) (c0 : Nat) (l0 : List (S60)) (A1 : Option Addr) (c1 : Nat) (l1 : List Int) (r : Bool) (w : World) (hr0 : Kd.C k60 w A0 l0.length l0) (hc0 : l0.length ≤ c0) (hr1 : Kd.C (Kd.int .i64) w A1 l1.length l1) (hc1 : l1.length ≤ c1) (ht_ : r = true) (h : laws_FnExactKnownOf.f k l0 l1 = some r) :
    Calls Try.prog 10 #[.slice A0 l0.length c0, .slice A1 l1.length c1] w fun e w' => e = .returned (.bool r) ∧ Below w.heap.size w w' := by
  subst ht_
  have HR0 := Aside0.mk hr0
  have HC0 := Aside0.mk hc0
  clear hr0 hc0
  have HR1 := Aside0.mk hr1
  have HC1 := Aside0.mk hc1
  clear hr1 hc1
  have H : (if (l1.length : Int) > 1048576 then (some true) else ((laws_szExtS.f k l0 1048576).bind fun t176 => (if t176 < 0 then (some true) else ((laws_toExtS.f k l0).bind fun t177 => ((laws_toIntS.f k l1).bind fun t180 => ((spec_KnownOf.f k t177 t180).bind fun t183 => ((laws_toExtS.f k l0).bind fun t186 => ((laws_toIntS.f k l1).bind fun t189 => ((impl_KnownOf.f k t186 t189).bind fun t192 => ((laws_eqExtS.f k t192 t183).bind fun t195 => (if t195 = true then ((laws_toExtS.f k l0).bind fun t196 => ((laws_eqExtS.f k t186 t196).bind fun t199 => (if t199 = true then ((laws_toIntS.f k l1).bind fun t200 => ((laws_eqIntS.f k t189 t200).bind fun t203 => (if t203 = true then ((laws_markExtS.f k t186 1).bind fun bt204 => ((laws_markIntS.f k t189 bt204.1).bind fun bt206 => (if bt206.1 < 0 then (some false) else ((laws_eqExtS.f k t192 t183).bind fun t208 => (if t208 = true then ((laws_markExtS.f k t192 1).bind fun bt209 => ((laws_heldExtS.f k bt209.2 1).bind fun t211 => (if t211 < 0 then (some false) else (if t211 = bt209.1 then ((laws_toExtS.f k l0).bind fun t212 => ((laws_toIntS.f k l1).bind fun t215 => ((impl_KnownOf.f k t212 t215).bind fun t218 => ((laws_eqExtS.f k t218 t183).bind fun t221 => (if t221 = true then ((laws_heldExtS.f k bt209.2 1).bind fun t222 => (if t222 < 0 then (some false) else (if t222 = bt209.1 then (some true) else (some false)))) else (some false)))))) else (some false))))) else (some false)))))) else (some false)))) else (some false)))) else (some false)))))))))))) = some true := h
  clear h
  by_cases c1 : (l1.length : Int) > 1048576
  · rw [if_pos c1] at H
    have f2 : decide (1048576 < (l1.length : Int)) = true := decide_eq_true c1
    have f3 : decide (1048576 < l1.length) = true := decide_eq_true (by omega)
    have Cc1 := Aside0.mk c1
    clear c1
    clear H
    go_enter Try.func10, Try.ntmps10
    go_wp2
    go_ret
    exact ⟨rfl, (Below.refl w.heap.size w)⟩
  · rw [if_neg c1] at H
    have f4 : decide (1048576 < (l1.length : Int)) = false := decide_eq_false c1
    have f5 : decide (1048576 < l1.length) = false := decide_eq_false (by omega)
    have Cc1 := Aside0.mk c1
    clear c1
    obtain ⟨t176, A6, H⟩ := Option.bind_eq_some_iff.mp H
    have A6 := Aside0.mk A6
    by_cases c7 : t176 < 0
    · rw [if_pos c7] at H
      have f8 : decide (t176 < 0) = true := decide_eq_true c7
      have Cc7 := Aside0.mk c7
      clear c7
      clear H
      go_enter Try.func10, Try.ntmps10
      go_wp2_with fail
      refine calls_of_args (args' := #[.slice A0 l0.length c0, .int .i64 1048576]) (by first | rfl | rfl) ?_
      refine (laws_szExtS.calls (k := k) (l0 := l0) (hr0 := Kd.C_below HR0.out (Below.refl w.heap.size w)) (hc0 := HC0.out) (a1 := 1048576) (r := t176) (w := w) (h := A6.out)).mono ?_
      rintro e w9 ⟨rfl, hb⟩
      have s10 := Aside0.mk hb.size
      have HB11 := Aside0.mk (below_trans (Below.refl w.heap.size w) hb)
      clear hb
      go_wp2
      go_ret
      exact ⟨rfl, HB11.out⟩
    · rw [if_neg c7] at H
      have f12 : decide (t176 < 0) = false := decide_eq_false c7
      have Cc7 := Aside0.mk c7
      clear c7
      obtain ⟨t177, A13, H⟩ := Option.bind_eq_some_iff.mp H
      have A13 := Aside0.mk A13
      obtain ⟨t180, A14, H⟩ := Option.bind_eq_some_iff.mp H
      have A14 := Aside0.mk A14
      obtain ⟨t183, A15, H⟩ := Option.bind_eq_some_iff.mp H
      have A15 := Aside0.mk A15
      obtain ⟨t186, A16, H⟩ := Option.bind_eq_some_iff.mp H
      have A16 := Aside0.mk A16
      obtain ⟨t189, A17, H⟩ := Option.bind_eq_some_iff.mp H
      have A17 := Aside0.mk A17
      obtain ⟨t192, A18, H⟩ := Option.bind_eq_some_iff.mp H
      have A18 := Aside0.mk A18
      obtain ⟨t195, A19, H⟩ := Option.bind_eq_some_iff.mp H
      have A19 := Aside0.mk A19
      by_cases c20 : t195 = true
      · rw [if_pos c20] at H
        obtain rfl : t195 = true := by simpa using c20
        clear c20
        obtain ⟨t196, A21, H⟩ := Option.bind_eq_some_iff.mp H
        have A21 := Aside0.mk A21
        obtain ⟨t199, A22, H⟩ := Option.bind_eq_some_iff.mp H
        have A22 := Aside0.mk A22
        by_cases c23 : t199 = true
        · rw [if_pos c23] at H
          obtain rfl : t199 = true := by simpa using c23
          clear c23
          obtain ⟨t200, A24, H⟩ := Option.bind_eq_some_iff.mp H
          have A24 := Aside0.mk A24
          obtain ⟨t203, A25, H⟩ := Option.bind_eq_some_iff.mp H
          have A25 := Aside0.mk A25
          by_cases c26 : t203 = true
          · rw [if_pos c26] at H
            obtain rfl : t203 = true := by simpa using c26
            clear c26
            obtain ⟨⟨t204, t205⟩, A27, H⟩ := Option.bind_eq_some_iff.mp H
            dsimp only at H A27
            have A27 := Aside0.mk A27
            obtain ⟨⟨t206, t207⟩, A28, H⟩ := Option.bind_eq_some_iff.mp H
            dsimp only at H A28
            have A28 := Aside0.mk A28
            by_cases c29 : t206 < 0
            · rw [if_pos c29] at H
              exact absurd H (by simp)
            · rw [if_neg c29] at H
              have f30 : decide (t206 < 0) = false := decide_eq_false c29
              have Cc29 := Aside0.mk c29
              clear c29
              obtain ⟨t208, A31, H⟩ := Option.bind_eq_some_iff.mp H
              have A31 := Aside0.mk A31
              by_cases c32 : t208 = true
              · rw [if_pos c32] at H
                obtain rfl : t208 = true := by simpa using c32
                clear c32
                obtain ⟨⟨t209, t210⟩, A33, H⟩ := Option.bind_eq_some_iff.mp H
                dsimp only at H A33
                have A33 := Aside0.mk A33
                obtain ⟨t211, A34, H⟩ := Option.bind_eq_some_iff.mp H
                have A34 := Aside0.mk A34
                by_cases c35 : t211 < 0
                · rw [if_pos c35] at H
                  exact absurd H (by simp)
                · rw [if_neg c35] at H
                  have f36 : decide (t211 < 0) = false := decide_eq_false c35
                  have Cc35 := Aside0.mk c35
                  clear c35
                  by_cases c37 : t211 = t209
                  · rw [if_pos c37] at H
                    have f38 : (t211 == t209) = true := beq_iff_eq.mpr c37
                    have f39 : (t211 != t209) = false := bne_eq_false_iff_eq.mpr c37
                    have Cc37 := Aside0.mk c37
                    clear c37
                    obtain ⟨t212, A40, H⟩ := Option.bind_eq_some_iff.mp H
                    have A40 := Aside0.mk A40
                    obtain ⟨t215, A41, H⟩ := Option.bind_eq_some_iff.mp H
                    have A41 := Aside0.mk A41
                    obtain ⟨t218, A42, H⟩ := Option.bind_eq_some_iff.mp H
                    have A42 := Aside0.mk A42
                    obtain ⟨t221, A43, H⟩ := Option.bind_eq_some_iff.mp H
                    have A43 := Aside0.mk A43
                    by_cases c44 : t221 = true
                    · rw [if_pos c44] at H
                      obtain rfl : t221 = true := by simpa using c44
                      clear c44
                      obtain ⟨t222, A45, H⟩ := Option.bind_eq_some_iff.mp H
                      have A45 := Aside0.mk A45
                      by_cases c46 : t222 < 0
                      · rw [if_pos c46] at H
                        exact absurd H (by simp)
                      · rw [if_neg c46] at H
                        have f47 : decide (t222 < 0) = false := decide_eq_false c46
                        have Cc46 := Aside0.mk c46
                        clear c46
                        by_cases c48 : t222 = t209
                        · rw [if_pos c48] at H
                          have f49 : (t222 == t209) = true := beq_iff_eq.mpr c48
                          have f50 : (t222 != t209) = false := bne_eq_false_iff_eq.mpr c48
                          have Cc48 := Aside0.mk c48
                          clear c48
                          clear H
                          go_enter Try.func10, Try.ntmps10
                          go_wp2_with fail
                          refine calls_of_args (args' := #[.slice A0 l0.length c0, .int .i64 1048576]) (by first | rfl | rfl) ?_
                          refine (laws_szExtS.calls (k := k) (l0 := l0) (hr0 := Kd.C_below HR0.out (Below.refl w.heap.size w)) (hc0 := HC0.out) (a1 := 1048576) (r := t176) (w := w) (h := A6.out)).mono ?_
                          rintro e w51 ⟨rfl, hb⟩
                          have s52 := Aside0.mk hb.size
                          have HB53 := Aside0.mk (below_trans (Below.refl w.heap.size w) hb)
                          clear hb
                          go_wp2_with fail
                          refine calls_of_args (args' := #[.slice A0 l0.length c0]) (by first | rfl | rfl) ?_
                          refine (laws_toExtS.calls (k := k) (l0 := l0) (hr0 := Kd.C_below HR0.out HB53.out) (hc0 := HC0.out) (r := t177) (w := w51) (h := A13.out)).mono ?_
                          rintro e w54 ⟨v178, rfl, ho0, hb⟩
                          have s55 := Aside0.mk hb.size
                          have HO57 := Aside0.mk (Kd.S_lower (Kd.S_mono (ok' := fun k_ => (w51.heap.size ≤ k_ ∧ k_ < w54.heap.size)) (Kd.S_bound ho0) (fun k_ hk_ => by have h1_ := hk_.2.1; have h2_ := hk_.2.2.1; omega)) (by have := s52.out; have := s55.out; omega : w.heap.size ≤ w51.heap.size))
                          clear ho0
                          obtain ⟨Ao58, co59, eq_⟩ := Kd.S_slice HO57.out
                          subst eq_
                          have HB56 := Aside0.mk (below_trans HB53.out hb)
                          clear hb
                          go_wp2_with fail
                          refine calls_of_args (args' := #[.slice A1 l1.length c1]) (by first | rfl | rfl) ?_
                          refine (laws_toIntS.calls (k := k) (l0 := l1) (hr0 := Kd.C_below HR1.out HB56.out) (hc0 := HC1.out) (r := t180) (w := w54) (h := A14.out)).mono ?_
                          rintro e w60 ⟨v181, rfl, ho0, hb⟩
                          have s61 := Aside0.mk hb.size
                          have HO63 := Aside0.mk (Kd.S_below HO57.out hb)
                          clear HO57
                          have HO64 := Aside0.mk (Kd.R_lower (Kd.R_mono (ok' := fun k_ => (w54.heap.size ≤ k_ ∧ k_ < w60.heap.size)) (Kd.R_bound ho0) (fun k_ hk_ => by have h1_ := hk_.2.1; have h2_ := hk_.2.2.1; omega)) (by have := s52.out; have := s55.out; have := s61.out; omega : w.heap.size ≤ w54.heap.size))
                          clear ho0
                          obtain ⟨Ao65, co66, eq_⟩ := Kd.R_slice HO64.out
                          subst eq_
                          have HB62 := Aside0.mk (below_trans HB56.out hb)
                          clear hb
                          go_wp2_with fail
                          refine calls_of_args (args' := #[.slice Ao58 t177.length co59, .slice Ao65 t180.length co66]) (by first | rfl | rfl) ?_
                          refine (spec_KnownOf.calls (k := k) (l0 := t177) (A0 := Ao58) (c0 := co59) (hr0 := (Kd.S_reads' HO63.out).2.2) (hc0 := by have h_ := Kd.S_reads' HO63.out; omega) (l1 := t180) (A1 := Ao65) (c1 := co66) (hr1 := (Kd.R_reads' HO64.out).2.2) (hc1 := by have h_ := Kd.R_reads' HO64.out; omega) (r := t183) (w := w60) (h := A15.out)).mono ?_
                          rintro e w67 ⟨v184, rfl, ho0, hb⟩
                          have s68 := Aside0.mk hb.size
                          have HO70 := Aside0.mk (Kd.S_below HO63.out hb)
                          clear HO63
                          have HO71 := Aside0.mk (Kd.R_below HO64.out hb)
                          clear HO64
                          have HO72 := Aside0.mk (Kd.S_lower (Kd.S_mono (ok' := fun k_ => (w60.heap.size ≤ k_ ∧ k_ < w67.heap.size)) (Kd.S_bound ho0) (fun k_ hk_ => by have h1_ := hk_.2.1; have h2_ := hk_.2.2.1; omega)) (by have := s52.out; have := s55.out; have := s61.out; have := s68.out; omega : w.heap.size ≤ w60.heap.size))
                          clear ho0
                          obtain ⟨Ao73, co74, eq_⟩ := Kd.S_slice HO72.out
                          subst eq_
                          have HB69 := Aside0.mk (below_trans HB62.out hb)
                          clear hb
                          go_wp2_with fail
                          refine calls_of_args (args' := #[.slice A0 l0.length c0]) (by first | rfl | rfl) ?_
                          refine (laws_toExtS.calls (k := k) (l0 := l0) (hr0 := Kd.C_below HR0.out HB69.out) (hc0 := HC0.out) (r := t186) (w := w67) (h := A16.out)).mono ?_
                          rintro e w75 ⟨v187, rfl, ho0, hb⟩
                          have s76 := Aside0.mk hb.size
                          have HO78 := Aside0.mk (Kd.S_below HO70.out hb)
                          clear HO70
                          have HO79 := Aside0.mk (Kd.R_below HO71.out hb)
                          clear HO71
                          have HO80 := Aside0.mk (Kd.S_below HO72.out hb)
                          clear HO72
                          have HO81 := Aside0.mk (Kd.S_lower (Kd.S_mono (ok' := fun k_ => (w67.heap.size ≤ k_ ∧ k_ < w75.heap.size)) (Kd.S_bound ho0) (fun k_ hk_ => by have h1_ := hk_.2.1; have h2_ := hk_.2.2.1; omega)) (by have := s52.out; have := s55.out; have := s61.out; have := s68.out; have := s76.out; omega : w.heap.size ≤ w67.heap.size))
                          clear ho0
                          obtain ⟨Ao82, co83, eq_⟩ := Kd.S_slice HO81.out
                          subst eq_
                          have HB77 := Aside0.mk (below_trans HB69.out hb)
                          clear hb
                          go_wp2_with fail
                          refine calls_of_args (args' := #[.slice A1 l1.length c1]) (by first | rfl | rfl) ?_
                          refine (laws_toIntS.calls (k := k) (l0 := l1) (hr0 := Kd.C_below HR1.out HB77.out) (hc0 := HC1.out) (r := t189) (w := w75) (h := A17.out)).mono ?_
                          rintro e w84 ⟨v190, rfl, ho0, hb⟩
                          have s85 := Aside0.mk hb.size
                          have HO87 := Aside0.mk (Kd.S_below HO78.out hb)
                          clear HO78
                          have HO88 := Aside0.mk (Kd.R_below HO79.out hb)
                          clear HO79
                          have HO89 := Aside0.mk (Kd.S_below HO80.out hb)
                          clear HO80
                          have HO90 := Aside0.mk (Kd.S_below HO81.out hb)
                          clear HO81
                          have HO91 := Aside0.mk (Kd.R_lower (Kd.R_mono (ok' := fun k_ => (w75.heap.size ≤ k_ ∧ k_ < w84.heap.size)) (Kd.R_bound ho0) (fun k_ hk_ => by have h1_ := hk_.2.1; have h2_ := hk_.2.2.1; omega)) (by have := s52.out; have := s55.out; have := s61.out; have := s68.out; have := s76.out; have := s85.out; omega : w.heap.size ≤ w75.heap.size))
                          clear ho0
                          obtain ⟨Ao92, co93, eq_⟩ := Kd.R_slice HO91.out
                          subst eq_
                          have HB86 := Aside0.mk (below_trans HB77.out hb)
                          clear hb
                          go_wp2_with fail
                          refine calls_of_args (args' := #[.slice Ao82 t186.length co83, .slice Ao92 t189.length co93]) (by first | rfl | rfl) ?_
                          refine (impl_KnownOf.calls (k := k) (l0 := t186) (A0 := Ao82) (c0 := co83) (hr0 := (Kd.S_reads' HO90.out).2.2) (hc0 := by have h_ := Kd.S_reads' HO90.out; omega) (l1 := t189) (A1 := Ao92) (c1 := co93) (hr1 := (Kd.R_reads' HO91.out).2.2) (hc1 := by have h_ := Kd.R_reads' HO91.out; omega) (r := t192) (w := w84) (h := A18.out)).mono ?_
                          rintro e w94 ⟨v193, rfl, ho0, hb⟩
                          have s95 := Aside0.mk hb.size
                          have HO97 := Aside0.mk (Kd.S_below HO87.out hb)
                          clear HO87
                          have HO98 := Aside0.mk (Kd.R_below HO88.out hb)
                          clear HO88
                          have HO99 := Aside0.mk (Kd.S_below HO89.out hb)
                          clear HO89
                          have HO100 := Aside0.mk (Kd.S_below HO90.out hb)
                          clear HO90
                          have HO101 := Aside0.mk (Kd.R_below HO91.out hb)
                          clear HO91
                          have HO102 := Aside0.mk (Kd.S_lower (Kd.S_mono (ok' := fun k_ => (w84.heap.size ≤ k_ ∧ k_ < w94.heap.size)) (Kd.S_bound ho0) (fun k_ hk_ => by have h1_ := hk_.2.1; have h2_ := hk_.2.2.1; omega)) (by have := s52.out; have := s55.out; have := s61.out; have := s68.out; have := s76.out; have := s85.out; have := s95.out; omega : w.heap.size ≤ w84.heap.size))
                          clear ho0
                          obtain ⟨Ao103, co104, eq_⟩ := Kd.S_slice HO102.out
                          subst eq_
                          have HB96 := Aside0.mk (below_trans HB86.out hb)
                          clear hb
                          go_wp2_with fail
                          refine calls_of_args (args' := #[.slice Ao103 t192.length co104, .slice Ao73 t183.length co74]) (by first | rfl | rfl) ?_
                          refine (laws_eqExtS.calls (k := k) (l0 := t192) (A0 := Ao103) (c0 := co104) (hr0 := (Kd.S_reads' HO102.out).2.2) (hc0 := by have h_ := Kd.S_reads' HO102.out; omega) (l1 := t183) (A1 := Ao73) (c1 := co74) (hr1 := (Kd.S_reads' HO99.out).2.2) (hc1 := by have h_ := Kd.S_reads' HO99.out; omega) (r := true) (w := w94) (h := A19.out)).mono ?_
                          rintro e w105 ⟨rfl, hb⟩
                          have s106 := Aside0.mk hb.size
                          have HO108 := Aside0.mk (Kd.S_below HO97.out hb)
                          clear HO97
                          have HO109 := Aside0.mk (Kd.R_below HO98.out hb)
                          clear HO98
                          have HO110 := Aside0.mk (Kd.S_below HO99.out hb)
                          clear HO99
                          have HO111 := Aside0.mk (Kd.S_below HO100.out hb)
                          clear HO100
                          have HO112 := Aside0.mk (Kd.R_below HO101.out hb)
                          clear HO101
                          have HO113 := Aside0.mk (Kd.S_below HO102.out hb)
                          clear HO102
                          have HB107 := Aside0.mk (below_trans HB96.out hb)
                          clear hb
                          go_wp2_with fail
                          refine calls_of_args (args' := #[.slice A0 l0.length c0]) (by first | rfl | rfl) ?_
                          refine (laws_toExtS.calls (k := k) (l0 := l0) (hr0 := Kd.C_below HR0.out HB107.out) (hc0 := HC0.out) (r := t196) (w := w105) (h := A21.out)).mono ?_
                          rintro e w114 ⟨v197, rfl, ho0, hb⟩
                          have s115 := Aside0.mk hb.size
                          have HO117 := Aside0.mk (Kd.S_below HO108.out hb)
                          clear HO108
                          have HO118 := Aside0.mk (Kd.R_below HO109.out hb)
                          clear HO109
                          have HO119 := Aside0.mk (Kd.S_below HO110.out hb)
                          clear HO110
                          have HO120 := Aside0.mk (Kd.S_below HO111.out hb)
                          clear HO111
                          have HO121 := Aside0.mk (Kd.R_below HO112.out hb)
                          clear HO112
                          have HO122 := Aside0.mk (Kd.S_below HO113.out hb)
                          clear HO113
                          have HO123 := Aside0.mk (Kd.S_lower (Kd.S_mono (ok' := fun k_ => (w105.heap.size ≤ k_ ∧ k_ < w114.heap.size)) (Kd.S_bound ho0) (fun k_ hk_ => by have h1_ := hk_.2.1; have h2_ := hk_.2.2.1; omega)) (by have := s52.out; have := s55.out; have := s61.out; have := s68.out; have := s76.out; have := s85.out; have := s95.out; have := s106.out; have := s115.out; omega : w.heap.size ≤ w105.heap.size))
                          clear ho0
                          obtain ⟨Ao124, co125, eq_⟩ := Kd.S_slice HO123.out
                          subst eq_
                          have HB116 := Aside0.mk (below_trans HB107.out hb)
                          clear hb
                          go_wp2_with fail
                          refine calls_of_args (args' := #[.slice Ao82 t186.length co83, .slice Ao124 t196.length co125]) (by first | rfl | rfl) ?_
                          refine (laws_eqExtS.calls (k := k) (l0 := t186) (A0 := Ao82) (c0 := co83) (hr0 := (Kd.S_reads' HO120.out).2.2) (hc0 := by have h_ := Kd.S_reads' HO120.out; omega) (l1 := t196) (A1 := Ao124) (c1 := co125) (hr1 := (Kd.S_reads' HO123.out).2.2) (hc1 := by have h_ := Kd.S_reads' HO123.out; omega) (r := true) (w := w114) (h := A22.out)).mono ?_
                          rintro e w126 ⟨rfl, hb⟩
                          have s127 := Aside0.mk hb.size
                          have HO129 := Aside0.mk (Kd.S_below HO117.out hb)
                          clear HO117
                          have HO130 := Aside0.mk (Kd.R_below HO118.out hb)
                          clear HO118
                          have HO131 := Aside0.mk (Kd.S_below HO119.out hb)
                          clear HO119
                          have HO132 := Aside0.mk (Kd.S_below HO120.out hb)
                          clear HO120
                          have HO133 := Aside0.mk (Kd.R_below HO121.out hb)
                          clear HO121
                          have HO134 := Aside0.mk (Kd.S_below HO122.out hb)
                          clear HO122
                          have HO135 := Aside0.mk (Kd.S_below HO123.out hb)
                          clear HO123
                          have HB128 := Aside0.mk (below_trans HB116.out hb)
                          clear hb
                          go_wp2_with fail
                          refine calls_of_args (args' := #[.slice A1 l1.length c1]) (by first | rfl | rfl) ?_
                          refine (laws_toIntS.calls (k := k) (l0 := l1) (hr0 := Kd.C_below HR1.out HB128.out) (hc0 := HC1.out) (r := t200) (w := w126) (h := A24.out)).mono ?_
                          rintro e w136 ⟨v201, rfl, ho0, hb⟩
                          have s137 := Aside0.mk hb.size
                          have HO139 := Aside0.mk (Kd.S_below HO129.out hb)
                          clear HO129
                          have HO140 := Aside0.mk (Kd.R_below HO130.out hb)
                          clear HO130
                          have HO141 := Aside0.mk (Kd.S_below HO131.out hb)
                          clear HO131
                          have HO142 := Aside0.mk (Kd.S_below HO132.out hb)
                          clear HO132
                          have HO143 := Aside0.mk (Kd.R_below HO133.out hb)
                          clear HO133
                          have HO144 := Aside0.mk (Kd.S_below HO134.out hb)
                          clear HO134
                          have HO145 := Aside0.mk (Kd.S_below HO135.out hb)
                          clear HO135
                          have HO146 := Aside0.mk (Kd.R_lower (Kd.R_mono (ok' := fun k_ => (w126.heap.size ≤ k_ ∧ k_ < w136.heap.size)) (Kd.R_bound ho0) (fun k_ hk_ => by have h1_ := hk_.2.1; have h2_ := hk_.2.2.1; omega)) (by have := s52.out; have := s55.out; have := s61.out; have := s68.out; have := s76.out; have := s85.out; have := s95.out; have := s106.out; have := s115.out; have := s127.out; have := s137.out; omega : w.heap.size ≤ w126.heap.size))
                          clear ho0
                          obtain ⟨Ao147, co148, eq_⟩ := Kd.R_slice HO146.out
                          subst eq_
                          have HB138 := Aside0.mk (below_trans HB128.out hb)
                          clear hb
                          go_wp2_with fail
                          refine calls_of_args (args' := #[.slice Ao92 t189.length co93, .slice Ao147 t200.length co148]) (by first | rfl | rfl) ?_
                          refine (laws_eqIntS.calls (k := k) (l0 := t189) (A0 := Ao92) (c0 := co93) (hr0 := (Kd.R_reads' HO143.out).2.2) (hc0 := by have h_ := Kd.R_reads' HO143.out; omega) (l1 := t200) (A1 := Ao147) (c1 := co148) (hr1 := (Kd.R_reads' HO146.out).2.2) (hc1 := by have h_ := Kd.R_reads' HO146.out; omega) (r := true) (w := w136) (h := A25.out)).mono ?_
                          rintro e w149 ⟨rfl, hd_⟩
                          have hb := hd_.below
                          clear hd_
                          have s150 := Aside0.mk hb.size
                          have HO152 := Aside0.mk (Kd.S_below HO139.out hb)
                          clear HO139
                          have HO153 := Aside0.mk (Kd.R_below HO140.out hb)
                          clear HO140
                          have HO154 := Aside0.mk (Kd.S_below HO141.out hb)
                          clear HO141
                          have HO155 := Aside0.mk (Kd.S_below HO142.out hb)
                          clear HO142
                          have HO156 := Aside0.mk (Kd.R_below HO143.out hb)
                          clear HO143
                          have HO157 := Aside0.mk (Kd.S_below HO144.out hb)
                          clear HO144
                          have HO158 := Aside0.mk (Kd.S_below HO145.out hb)
                          clear HO145
                          have HO159 := Aside0.mk (Kd.R_below HO146.out hb)
                          clear HO146
                          have HB151 := Aside0.mk (below_trans HB138.out hb)
                          clear hb
                          go_wp2_with fail
                          refine calls_of_args (args' := #[.slice Ao82 t186.length co83, .int .i64 1]) (by first | rfl | rfl) ?_
                          refine (laws_markExtS.calls (k := k) (l0 := t186) (P0_ := fun k_ => (w67.heap.size ≤ k_ ∧ k_ < w75.heap.size)) (u9000_ := .slice Ao82 t186.length co83) (ho0 := HO155.out) (a1 := 1) (r1 := t204) (r2 := t205) (w := w149) (w0 := w) (hB := HB151.out) (h := A27.out)).mono ?_
                          rintro e w160 ⟨rfl, hy0, hb, hkp⟩
                          have s161 := Aside0.mk hkp.1
                          have HB162 := Aside0.mk hb
                          have HO163 := Aside0.mk (Kd.S_kept HO152.out hkp (fun k_ hk_ hs_ => by have := s52.out; have := s55.out; have := s61.out; have := s68.out; have := s76.out; have := s85.out; have := s95.out; have := s106.out; have := s115.out; have := s127.out; have := s137.out; have := s150.out; have := s161.out; omega))
                          clear HO152
                          have HO164 := Aside0.mk (Kd.R_kept HO153.out hkp (fun k_ hk_ hs_ => by have := s52.out; have := s55.out; have := s61.out; have := s68.out; have := s76.out; have := s85.out; have := s95.out; have := s106.out; have := s115.out; have := s127.out; have := s137.out; have := s150.out; have := s161.out; omega))
                          clear HO153
                          have HO165 := Aside0.mk (Kd.S_kept HO154.out hkp (fun k_ hk_ hs_ => by have := s52.out; have := s55.out; have := s61.out; have := s68.out; have := s76.out; have := s85.out; have := s95.out; have := s106.out; have := s115.out; have := s127.out; have := s137.out; have := s150.out; have := s161.out; omega))
                          clear HO154
                          have HO166 := Aside0.mk (Kd.R_kept HO156.out hkp (fun k_ hk_ hs_ => by have := s52.out; have := s55.out; have := s61.out; have := s68.out; have := s76.out; have := s85.out; have := s95.out; have := s106.out; have := s115.out; have := s127.out; have := s137.out; have := s150.out; have := s161.out; omega))
                          clear HO156
                          have HO167 := Aside0.mk (Kd.S_kept HO157.out hkp (fun k_ hk_ hs_ => by have := s52.out; have := s55.out; have := s61.out; have := s68.out; have := s76.out; have := s85.out; have := s95.out; have := s106.out; have := s115.out; have := s127.out; have := s137.out; have := s150.out; have := s161.out; omega))
                          clear HO157
                          have HO168 := Aside0.mk (Kd.S_kept HO158.out hkp (fun k_ hk_ hs_ => by have := s52.out; have := s55.out; have := s61.out; have := s68.out; have := s76.out; have := s85.out; have := s95.out; have := s106.out; have := s115.out; have := s127.out; have := s137.out; have := s150.out; have := s161.out; omega))
                          clear HO158
                          have HO169 := Aside0.mk (Kd.R_kept HO159.out hkp (fun k_ hk_ hs_ => by have := s52.out; have := s55.out; have := s61.out; have := s68.out; have := s76.out; have := s85.out; have := s95.out; have := s106.out; have := s115.out; have := s127.out; have := s137.out; have := s150.out; have := s161.out; omega))
                          clear HO159
                          have HO170 := Aside0.mk (Kd.S_mono (ok' := fun k_ => (w67.heap.size ≤ k_ ∧ k_ < w75.heap.size) ∨ (w149.heap.size ≤ k_ ∧ k_ < w160.heap.size)) (Kd.S_bound hy0) (fun k_ hk_ => by have h1_ := hk_.1; have h2_ := hk_.2.2.1; have := s52.out; have := s55.out; have := s61.out; have := s68.out; have := s76.out; have := s85.out; have := s95.out; have := s106.out; have := s115.out; have := s127.out; have := s137.out; have := s150.out; have := s161.out; omega))
                          clear HO155
                          clear hb hkp hy0
                          go_wp2_with fail
                          refine calls_of_args (args' := #[.slice Ao92 t189.length co93, .int .i64 t204]) (by first | rfl | (rw [← (Kd.S_reads' HO170.out).1])) ?_
                          refine (laws_markIntS.calls (k := k) (l0 := t189) (P0_ := fun k_ => (w75.heap.size ≤ k_ ∧ k_ < w84.heap.size)) (u9000_ := .slice Ao92 t189.length co93) (ho0 := HO166.out) (a1 := t204) (r1 := t206) (r2 := t207) (w := w160) (w0 := w) (hB := HB162.out) (h := A28.out)).mono ?_
                          rintro e w171 ⟨rfl, hy0, hb, hkp⟩
                          have s172 := Aside0.mk hkp.1
                          have HB173 := Aside0.mk hb
                          have HO174 := Aside0.mk (Kd.S_kept HO163.out hkp (fun k_ hk_ hs_ => by have := s52.out; have := s55.out; have := s61.out; have := s68.out; have := s76.out; have := s85.out; have := s95.out; have := s106.out; have := s115.out; have := s127.out; have := s137.out; have := s150.out; have := s161.out; have := s172.out; omega))
                          clear HO163
                          have HO175 := Aside0.mk (Kd.R_kept HO164.out hkp (fun k_ hk_ hs_ => by have := s52.out; have := s55.out; have := s61.out; have := s68.out; have := s76.out; have := s85.out; have := s95.out; have := s106.out; have := s115.out; have := s127.out; have := s137.out; have := s150.out; have := s161.out; have := s172.out; omega))
                          clear HO164
                          have HO176 := Aside0.mk (Kd.S_kept HO165.out hkp (fun k_ hk_ hs_ => by have := s52.out; have := s55.out; have := s61.out; have := s68.out; have := s76.out; have := s85.out; have := s95.out; have := s106.out; have := s115.out; have := s127.out; have := s137.out; have := s150.out; have := s161.out; have := s172.out; omega))
                          clear HO165
                          have HO177 := Aside0.mk (Kd.S_kept HO170.out hkp (fun k_ hk_ hs_ => by have := s52.out; have := s55.out; have := s61.out; have := s68.out; have := s76.out; have := s85.out; have := s95.out; have := s106.out; have := s115.out; have := s127.out; have := s137.out; have := s150.out; have := s161.out; have := s172.out; omega))
                          clear HO170
                          have HO178 := Aside0.mk (Kd.S_kept HO167.out hkp (fun k_ hk_ hs_ => by have := s52.out; have := s55.out; have := s61.out; have := s68.out; have := s76.out; have := s85.out; have := s95.out; have := s106.out; have := s115.out; have := s127.out; have := s137.out; have := s150.out; have := s161.out; have := s172.out; omega))
                          clear HO167
                          have HO179 := Aside0.mk (Kd.S_kept HO168.out hkp (fun k_ hk_ hs_ => by have := s52.out; have := s55.out; have := s61.out; have := s68.out; have := s76.out; have := s85.out; have := s95.out; have := s106.out; have := s115.out; have := s127.out; have := s137.out; have := s150.out; have := s161.out; have := s172.out; omega))
                          clear HO168
                          have HO180 := Aside0.mk (Kd.R_kept HO169.out hkp (fun k_ hk_ hs_ => by have := s52.out; have := s55.out; have := s61.out; have := s68.out; have := s76.out; have := s85.out; have := s95.out; have := s106.out; have := s115.out; have := s127.out; have := s137.out; have := s150.out; have := s161.out; have := s172.out; omega))
                          clear HO169
                          have HO181 := Aside0.mk (Kd.R_mono (ok' := fun k_ => (w75.heap.size ≤ k_ ∧ k_ < w84.heap.size) ∨ (w160.heap.size ≤ k_ ∧ k_ < w171.heap.size)) (Kd.R_bound hy0) (fun k_ hk_ => by have h1_ := hk_.1; have h2_ := hk_.2.2.1; have := s52.out; have := s55.out; have := s61.out; have := s68.out; have := s76.out; have := s85.out; have := s95.out; have := s106.out; have := s115.out; have := s127.out; have := s137.out; have := s150.out; have := s161.out; have := s172.out; omega))
                          clear HO166
                          clear hb hkp hy0
                          go_wp2_with fail
                          refine calls_of_args (args' := #[.slice Ao103 t192.length co104, .slice Ao73 t183.length co74]) (by first | rfl | (rw [← (Kd.S_reads' HO177.out).1]) | (rw [← (Kd.R_reads' HO181.out).1])) ?_
                          refine (laws_eqExtS.calls (k := k) (l0 := t192) (A0 := Ao103) (c0 := co104) (hr0 := (Kd.S_reads' HO178.out).2.2) (hc0 := by have h_ := Kd.S_reads' HO178.out; omega) (l1 := t183) (A1 := Ao73) (c1 := co74) (hr1 := (Kd.S_reads' HO176.out).2.2) (hc1 := by have h_ := Kd.S_reads' HO176.out; omega) (r := true) (w := w171) (h := A31.out)).mono ?_
                          rintro e w182 ⟨rfl, hb⟩
                          have s183 := Aside0.mk hb.size
                          have HO185 := Aside0.mk (Kd.S_below HO174.out hb)
                          clear HO174
                          have HO186 := Aside0.mk (Kd.R_below HO175.out hb)
                          clear HO175
                          have HO187 := Aside0.mk (Kd.S_below HO176.out hb)
                          clear HO176
                          have HO188 := Aside0.mk (Kd.S_below HO177.out hb)
                          clear HO177
                          have HO189 := Aside0.mk (Kd.R_below HO181.out hb)
                          clear HO181
                          have HO190 := Aside0.mk (Kd.S_below HO178.out hb)
                          clear HO178
                          have HO191 := Aside0.mk (Kd.S_below HO179.out hb)
                          clear HO179
                          have HO192 := Aside0.mk (Kd.R_below HO180.out hb)
                          clear HO180
                          have HB184 := Aside0.mk (below_trans HB173.out hb)
                          clear hb
                          go_wp2_with fail
                          refine calls_of_args (args' := #[.slice Ao103 t192.length co104, .int .i64 1]) (by first | rfl | (rw [← (Kd.S_reads' HO188.out).1]) | (rw [← (Kd.R_reads' HO189.out).1])) ?_
                          refine (laws_markExtS.calls (k := k) (l0 := t192) (P0_ := fun k_ => (w84.heap.size ≤ k_ ∧ k_ < w94.heap.size)) (u9000_ := .slice Ao103 t192.length co104) (ho0 := HO190.out) (a1 := 1) (r1 := t209) (r2 := t210) (w := w182) (w0 := w) (hB := HB184.out) (h := A33.out)).mono ?_
                          rintro e w193 ⟨rfl, hy0, hb, hkp⟩
                          have s194 := Aside0.mk hkp.1
                          have HB195 := Aside0.mk hb
                          have HO196 := Aside0.mk (Kd.S_kept HO185.out hkp (fun k_ hk_ hs_ => by have := s52.out; have := s55.out; have := s61.out; have := s68.out; have := s76.out; have := s85.out; have := s95.out; have := s106.out; have := s115.out; have := s127.out; have := s137.out; have := s150.out; have := s161.out; have := s172.out; have := s183.out; have := s194.out; omega))
                          clear HO185
                          have HO197 := Aside0.mk (Kd.R_kept HO186.out hkp (fun k_ hk_ hs_ => by have := s52.out; have := s55.out; have := s61.out; have := s68.out; have := s76.out; have := s85.out; have := s95.out; have := s106.out; have := s115.out; have := s127.out; have := s137.out; have := s150.out; have := s161.out; have := s172.out; have := s183.out; have := s194.out; omega))
                          clear HO186
                          have HO198 := Aside0.mk (Kd.S_kept HO187.out hkp (fun k_ hk_ hs_ => by have := s52.out; have := s55.out; have := s61.out; have := s68.out; have := s76.out; have := s85.out; have := s95.out; have := s106.out; have := s115.out; have := s127.out; have := s137.out; have := s150.out; have := s161.out; have := s172.out; have := s183.out; have := s194.out; omega))
                          clear HO187
                          have HO199 := Aside0.mk (Kd.S_kept HO188.out hkp (fun k_ hk_ hs_ => by have := s52.out; have := s55.out; have := s61.out; have := s68.out; have := s76.out; have := s85.out; have := s95.out; have := s106.out; have := s115.out; have := s127.out; have := s137.out; have := s150.out; have := s161.out; have := s172.out; have := s183.out; have := s194.out; omega))
                          clear HO188
                          have HO200 := Aside0.mk (Kd.R_kept HO189.out hkp (fun k_ hk_ hs_ => by have := s52.out; have := s55.out; have := s61.out; have := s68.out; have := s76.out; have := s85.out; have := s95.out; have := s106.out; have := s115.out; have := s127.out; have := s137.out; have := s150.out; have := s161.out; have := s172.out; have := s183.out; have := s194.out; omega))
                          clear HO189
                          have HO201 := Aside0.mk (Kd.S_kept HO191.out hkp (fun k_ hk_ hs_ => by have := s52.out; have := s55.out; have := s61.out; have := s68.out; have := s76.out; have := s85.out; have := s95.out; have := s106.out; have := s115.out; have := s127.out; have := s137.out; have := s150.out; have := s161.out; have := s172.out; have := s183.out; have := s194.out; omega))
                          clear HO191
                          have HO202 := Aside0.mk (Kd.R_kept HO192.out hkp (fun k_ hk_ hs_ => by have := s52.out; have := s55.out; have := s61.out; have := s68.out; have := s76.out; have := s85.out; have := s95.out; have := s106.out; have := s115.out; have := s127.out; have := s137.out; have := s150.out; have := s161.out; have := s172.out; have := s183.out; have := s194.out; omega))
                          clear HO192
                          have HO203 := Aside0.mk (Kd.S_mono (ok' := fun k_ => (w84.heap.size ≤ k_ ∧ k_ < w94.heap.size) ∨ (w182.heap.size ≤ k_ ∧ k_ < w193.heap.size)) (Kd.S_bound hy0) (fun k_ hk_ => by have h1_ := hk_.1; have h2_ := hk_.2.2.1; have := s52.out; have := s55.out; have := s61.out; have := s68.out; have := s76.out; have := s85.out; have := s95.out; have := s106.out; have := s115.out; have := s127.out; have := s137.out; have := s150.out; have := s161.out; have := s172.out; have := s183.out; have := s194.out; omega))
                          clear HO190
                          clear hb hkp hy0
                          go_wp2_with fail
                          refine calls_of_args (args' := #[.slice Ao103 t210.length co104, .int .i64 1]) (by first | rfl | (rw [← (Kd.S_reads' HO199.out).1]) | (rw [← (Kd.R_reads' HO200.out).1]) | (rw [← (Kd.S_reads' HO203.out).1])) ?_
                          refine (laws_heldExtS.calls (k := k) (l0 := t210) (A0 := Ao103) (c0 := co104) (hr0 := (Kd.S_reads' HO203.out).2.2) (hc0 := by have h_ := Kd.S_reads' HO203.out; omega) (a1 := 1) (r := t211) (w := w193) (h := A34.out)).mono ?_
                          rintro e w204 ⟨rfl, hd_⟩
                          have hb := hd_.below
                          clear hd_
                          have s205 := Aside0.mk hb.size
                          have HO207 := Aside0.mk (Kd.S_below HO196.out hb)
                          clear HO196
                          have HO208 := Aside0.mk (Kd.R_below HO197.out hb)
                          clear HO197
                          have HO209 := Aside0.mk (Kd.S_below HO198.out hb)
                          clear HO198
                          have HO210 := Aside0.mk (Kd.S_below HO199.out hb)
                          clear HO199
                          have HO211 := Aside0.mk (Kd.R_below HO200.out hb)
                          clear HO200
                          have HO212 := Aside0.mk (Kd.S_below HO203.out hb)
                          clear HO203
                          have HO213 := Aside0.mk (Kd.S_below HO201.out hb)
                          clear HO201
                          have HO214 := Aside0.mk (Kd.R_below HO202.out hb)
                          clear HO202
                          have HB206 := Aside0.mk (below_trans HB195.out hb)
                          clear hb
                          go_wp2_with fail
                          refine calls_of_args (args' := #[.slice A0 l0.length c0]) (by first | rfl | (rw [← (Kd.S_reads' HO210.out).1]) | (rw [← (Kd.R_reads' HO211.out).1]) | (rw [← (Kd.S_reads' HO212.out).1])) ?_
                          refine (laws_toExtS.calls (k := k) (l0 := l0) (hr0 := Kd.C_below HR0.out HB206.out) (hc0 := HC0.out) (r := t212) (w := w204) (h := A40.out)).mono ?_
                          rintro e w215 ⟨v213, rfl, ho0, hb⟩
                          have s216 := Aside0.mk hb.size
                          have HO218 := Aside0.mk (Kd.S_below HO207.out hb)
                          clear HO207
                          have HO219 := Aside0.mk (Kd.R_below HO208.out hb)
                          clear HO208
                          have HO220 := Aside0.mk (Kd.S_below HO209.out hb)
                          clear HO209
                          have HO221 := Aside0.mk (Kd.S_below HO210.out hb)
                          clear HO210
                          have HO222 := Aside0.mk (Kd.R_below HO211.out hb)
                          clear HO211
                          have HO223 := Aside0.mk (Kd.S_below HO212.out hb)
                          clear HO212
                          have HO224 := Aside0.mk (Kd.S_below HO213.out hb)
                          clear HO213
                          have HO225 := Aside0.mk (Kd.R_below HO214.out hb)
                          clear HO214
                          have HO226 := Aside0.mk (Kd.S_lower (Kd.S_mono (ok' := fun k_ => (w204.heap.size ≤ k_ ∧ k_ < w215.heap.size)) (Kd.S_bound ho0) (fun k_ hk_ => by have h1_ := hk_.2.1; have h2_ := hk_.2.2.1; omega)) (by have := s52.out; have := s55.out; have := s61.out; have := s68.out; have := s76.out; have := s85.out; have := s95.out; have := s106.out; have := s115.out; have := s127.out; have := s137.out; have := s150.out; have := s161.out; have := s172.out; have := s183.out; have := s194.out; have := s205.out; have := s216.out; omega : w.heap.size ≤ w204.heap.size))
                          clear ho0
                          obtain ⟨Ao227, co228, eq_⟩ := Kd.S_slice HO226.out
                          subst eq_
                          have HB217 := Aside0.mk (below_trans HB206.out hb)
                          clear hb
                          go_wp2_with fail
                          refine calls_of_args (args' := #[.slice A1 l1.length c1]) (by first | rfl | (rw [← (Kd.S_reads' HO221.out).1]) | (rw [← (Kd.R_reads' HO222.out).1]) | (rw [← (Kd.S_reads' HO223.out).1])) ?_
                          refine (laws_toIntS.calls (k := k) (l0 := l1) (hr0 := Kd.C_below HR1.out HB217.out) (hc0 := HC1.out) (r := t215) (w := w215) (h := A41.out)).mono ?_
                          rintro e w229 ⟨v216, rfl, ho0, hb⟩
                          have s230 := Aside0.mk hb.size
                          have HO232 := Aside0.mk (Kd.S_below HO218.out hb)
                          clear HO218
                          have HO233 := Aside0.mk (Kd.R_below HO219.out hb)
                          clear HO219
                          have HO234 := Aside0.mk (Kd.S_below HO220.out hb)
                          clear HO220
                          have HO235 := Aside0.mk (Kd.S_below HO221.out hb)
                          clear HO221
                          have HO236 := Aside0.mk (Kd.R_below HO222.out hb)
                          clear HO222
                          have HO237 := Aside0.mk (Kd.S_below HO223.out hb)
                          clear HO223
                          have HO238 := Aside0.mk (Kd.S_below HO224.out hb)
                          clear HO224
                          have HO239 := Aside0.mk (Kd.R_below HO225.out hb)
                          clear HO225
                          have HO240 := Aside0.mk (Kd.S_below HO226.out hb)
                          clear HO226
                          have HO241 := Aside0.mk (Kd.R_lower (Kd.R_mono (ok' := fun k_ => (w215.heap.size ≤ k_ ∧ k_ < w229.heap.size)) (Kd.R_bound ho0) (fun k_ hk_ => by have h1_ := hk_.2.1; have h2_ := hk_.2.2.1; omega)) (by have := s52.out; have := s55.out; have := s61.out; have := s68.out; have := s76.out; have := s85.out; have := s95.out; have := s106.out; have := s115.out; have := s127.out; have := s137.out; have := s150.out; have := s161.out; have := s172.out; have := s183.out; have := s194.out; have := s205.out; have := s216.out; have := s230.out; omega : w.heap.size ≤ w215.heap.size))
                          clear ho0
                          obtain ⟨Ao242, co243, eq_⟩ := Kd.R_slice HO241.out
                          subst eq_
                          have HB231 := Aside0.mk (below_trans HB217.out hb)
                          clear hb
                          go_wp2_with fail
                          refine calls_of_args (args' := #[.slice Ao227 t212.length co228, .slice Ao242 t215.length co243]) (by first | rfl | (rw [← (Kd.S_reads' HO235.out).1]) | (rw [← (Kd.R_reads' HO236.out).1]) | (rw [← (Kd.S_reads' HO237.out).1])) ?_
                          refine (impl_KnownOf.calls (k := k) (l0 := t212) (A0 := Ao227) (c0 := co228) (hr0 := (Kd.S_reads' HO240.out).2.2) (hc0 := by have h_ := Kd.S_reads' HO240.out; omega) (l1 := t215) (A1 := Ao242) (c1 := co243) (hr1 := (Kd.R_reads' HO241.out).2.2) (hc1 := by have h_ := Kd.R_reads' HO241.out; omega) (r := t218) (w := w229) (h := A42.out)).mono ?_
                          rintro e w244 ⟨v219, rfl, ho0, hb⟩
                          have s245 := Aside0.mk hb.size
                          have HO247 := Aside0.mk (Kd.S_below HO232.out hb)
                          clear HO232
                          have HO248 := Aside0.mk (Kd.R_below HO233.out hb)
                          clear HO233
                          have HO249 := Aside0.mk (Kd.S_below HO234.out hb)
                          clear HO234
                          have HO250 := Aside0.mk (Kd.S_below HO235.out hb)
                          clear HO235
                          have HO251 := Aside0.mk (Kd.R_below HO236.out hb)
                          clear HO236
                          have HO252 := Aside0.mk (Kd.S_below HO237.out hb)
                          clear HO237
                          have HO253 := Aside0.mk (Kd.S_below HO238.out hb)
                          clear HO238
                          have HO254 := Aside0.mk (Kd.R_below HO239.out hb)
                          clear HO239
                          have HO255 := Aside0.mk (Kd.S_below HO240.out hb)
                          clear HO240
                          have HO256 := Aside0.mk (Kd.R_below HO241.out hb)
                          clear HO241
                          have HO257 := Aside0.mk (Kd.S_lower (Kd.S_mono (ok' := fun k_ => (w229.heap.size ≤ k_ ∧ k_ < w244.heap.size)) (Kd.S_bound ho0) (fun k_ hk_ => by have h1_ := hk_.2.1; have h2_ := hk_.2.2.1; omega)) (by have := s52.out; have := s55.out; have := s61.out; have := s68.out; have := s76.out; have := s85.out; have := s95.out; have := s106.out; have := s115.out; have := s127.out; have := s137.out; have := s150.out; have := s161.out; have := s172.out; have := s183.out; have := s194.out; have := s205.out; have := s216.out; have := s230.out; have := s245.out; omega : w.heap.size ≤ w229.heap.size))
                          clear ho0
                          obtain ⟨Ao258, co259, eq_⟩ := Kd.S_slice HO257.out
                          subst eq_
                          have HB246 := Aside0.mk (below_trans HB231.out hb)
                          clear hb
                          go_wp2_with fail
                          refine calls_of_args (args' := #[.slice Ao258 t218.length co259, .slice Ao73 t183.length co74]) (by first | rfl | (rw [← (Kd.S_reads' HO250.out).1]) | (rw [← (Kd.R_reads' HO251.out).1]) | (rw [← (Kd.S_reads' HO252.out).1])) ?_
                          refine (laws_eqExtS.calls (k := k) (l0 := t218) (A0 := Ao258) (c0 := co259) (hr0 := (Kd.S_reads' HO257.out).2.2) (hc0 := by have h_ := Kd.S_reads' HO257.out; omega) (l1 := t183) (A1 := Ao73) (c1 := co74) (hr1 := (Kd.S_reads' HO249.out).2.2) (hc1 := by have h_ := Kd.S_reads' HO249.out; omega) (r := true) (w := w244) (h := A43.out)).mono ?_
                          rintro e w260 ⟨rfl, hb⟩
                          have s261 := Aside0.mk hb.size
                          have HO263 := Aside0.mk (Kd.S_below HO247.out hb)
                          clear HO247
                          have HO264 := Aside0.mk (Kd.R_below HO248.out hb)
                          clear HO248
                          have HO265 := Aside0.mk (Kd.S_below HO249.out hb)
                          clear HO249
                          have HO266 := Aside0.mk (Kd.S_below HO250.out hb)
                          clear HO250
                          have HO267 := Aside0.mk (Kd.R_below HO251.out hb)
                          clear HO251
                          have HO268 := Aside0.mk (Kd.S_below HO252.out hb)
                          clear HO252
                          have HO269 := Aside0.mk (Kd.S_below HO253.out hb)
                          clear HO253
                          have HO270 := Aside0.mk (Kd.R_below HO254.out hb)
                          clear HO254
                          have HO271 := Aside0.mk (Kd.S_below HO255.out hb)
                          clear HO255
                          have HO272 := Aside0.mk (Kd.R_below HO256.out hb)
                          clear HO256
                          have HO273 := Aside0.mk (Kd.S_below HO257.out hb)
                          clear HO257
                          have HB262 := Aside0.mk (below_trans HB246.out hb)
                          clear hb
                          go_wp2_with fail
                          refine calls_of_args (args' := #[.slice Ao103 t210.length co104, .int .i64 1]) (by first | rfl | (rw [← (Kd.S_reads' HO266.out).1]) | (rw [← (Kd.R_reads' HO267.out).1]) | (rw [← (Kd.S_reads' HO268.out).1])) ?_
                          refine (laws_heldExtS.calls (k := k) (l0 := t210) (A0 := Ao103) (c0 := co104) (hr0 := (Kd.S_reads' HO268.out).2.2) (hc0 := by have h_ := Kd.S_reads' HO268.out; omega) (a1 := 1) (r := t222) (w := w260) (h := A45.out)).mono ?_
                          rintro e w274 ⟨rfl, hd_⟩
                          have hb := hd_.below
                          clear hd_
                          have s275 := Aside0.mk hb.size
                          have HO277 := Aside0.mk (Kd.S_below HO263.out hb)
                          clear HO263
                          have HO278 := Aside0.mk (Kd.R_below HO264.out hb)
                          clear HO264
                          have HO279 := Aside0.mk (Kd.S_below HO265.out hb)
                          clear HO265
                          have HO280 := Aside0.mk (Kd.S_below HO266.out hb)
                          clear HO266
                          have HO281 := Aside0.mk (Kd.R_below HO267.out hb)
                          clear HO267
                          have HO282 := Aside0.mk (Kd.S_below HO268.out hb)
                          clear HO268
                          have HO283 := Aside0.mk (Kd.S_below HO269.out hb)
                          clear HO269
                          have HO284 := Aside0.mk (Kd.R_below HO270.out hb)
                          clear HO270
                          have HO285 := Aside0.mk (Kd.S_below HO271.out hb)
                          clear HO271
                          have HO286 := Aside0.mk (Kd.R_below HO272.out hb)
                          clear HO272
                          have HO287 := Aside0.mk (Kd.S_below HO273.out hb)
                          clear HO273
                          have HB276 := Aside0.mk (below_trans HB262.out hb)
                          clear hb
                          go_wp2
                          go_ret
                          exact ⟨rfl, HB276.out⟩
                        · rw [if_neg c48] at H
                          exact absurd H (by simp)
                    · rw [if_neg c44] at H
                      exact absurd H (by simp)
                  · rw [if_neg c37] at H
                    exact absurd H (by simp)
              · rw [if_neg c32] at H
                exact absurd H (by simp)
          · rw [if_neg c26] at H
            exact absurd H (by simp)
        · rw [if_neg c23] at H
          exact absurd H (by simp)
      · rw [if_neg c20] at H
        exact absurd H (by simp)

/-- What is known of a value of type 60 that came in. -/
def W60 (x : S60) : Prop := (Lit.int .i64 x.f0).wf = true ∧ (x.f1.length ≤ 9223372036854775807 ∧ ∀ y ∈ x.f1, (Lit.int .i64 y).wf = true)

/-- The pure statement of laws_FnExactKnownOf. -/
def laws_FnExactKnownOf.Pure : Prop := ∀ (l0 : List (S60)) (l1 : List Int), l0.length ≤ 9223372036854775807 → (∀ x ∈ l0, W60 x) → l1.length ≤ 9223372036854775807 → (∀ x ∈ l1, (Lit.int .i64 x).wf = true) → ∃ k, laws_FnExactKnownOf.f k l0 l1 = some true

end Go.Proofs.Ytljoejddjendbaa.PFnExactKnownOf
